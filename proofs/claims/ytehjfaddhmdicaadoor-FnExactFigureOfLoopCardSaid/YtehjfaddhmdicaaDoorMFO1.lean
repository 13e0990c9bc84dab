/- For every input the law FnExactFigureOfLoop answers true: the program's FigureOfLoop tells what the reference's FigureOfLoop tells; no condition. (part 1 of the proof; the words of the kit's print tool and the texts of this seat, merged by a program) -/
import Derived.ArgAppend
import Derived.Below
import Derived.BigQuiet
import Derived.Deep.AppendLies
import Derived.Deep.CutBlock
import Derived.Deep.DeepCutAuto
import Derived.Deep.Draws
import Derived.Deep.LoopGhost
import Derived.Deep.OwnRows
import Derived.Deep.QuietTactic
import Derived.Deep.RegionHeld3
import Derived.DeepKeys4
import Derived.IntWalk
import Derived.KernelRfl
import Derived.Laws.Bits64b
import Derived.Laws.BitsLemmas
import Derived.Laws.BytesArg
import Derived.Laws.IdiomCopy
import Derived.Laws.MakeOwn
import Derived.Laws.OwnMore
import Derived.Laws.Rows
import Derived.Laws.Slices
import Derived.Lib.AppendStr
import Derived.Lib.ConvBytes
import Derived.Lib.SlBytesConst
import Derived.Lib.TrailingZeros
import Derived.Maps.AppendAt
import Derived.Maps.OwnSet
import Derived.OrdersHeld
import Derived.OwnWalk
import Derived.RowKit
import Derived.RowKit3
import Derived.Shelf.Abstract
import Derived.Tactics
import Derived.Test.YtehjfaddhmdicaaDoorProg
import Derived.WalkKit
import Derived.WideLaws
import Derived.Test.YtehjfaddhmdicaaDoorMFO0
namespace Go.Proofs.YtehjfaddhmdicaaDoor.P
open Go.RowKit Go.Proofs.YtehjfaddhmdicaaDoorW.PrintWords Go.Proofs.YtehjfaddhmdicaaDoorW.PrintLast Go.Proofs.YtehjfaddhmdicaaDoorW.PrintMore
attribute [local go_sem] max2_int min2_int max_two min_two max_three min_three max_four min_four   -- for this text's walks alone
set_option linter.unusedVariables false
set_option linter.unusedSimpArgs false



def errW:Option Int → Value
  | none => .nilIface
  | some c => .iface 0 (.int .i64 c)
theorem errW_none:errW none = .nilIface:=rfl
theorem errW_some (c:Int):errW (some c) = .iface 0 (.int .i64 c):=rfl

theorem info3:(Tryd.prog.info? 3).map (fun i => (i.zero,i.size,i.bytes)) = some (some (.int .i64 0),1,8):=by kernel_rfl
theorem info84:(Tryd.prog.info? 84).map (fun i => (i.zero,i.size,i.bytes)) = some (some (.agg #[(.int .i64 0),(.int .i64 0)]),2,16):=by kernel_rfl
structure S36 where
  f0:Int
  f1:Int
  f2:(List Int)
  f3:(List Int)
structure S122 where
  f0:Int
  f1:Int
  f2:Int
  f3:Int
structure S118 where
  f0:Int
  f1:Int
  f2:Int
  f3:Int
structure S102 where
  f0:Bool
  f1:Int
  f2:Int
  f3:Int
  f4:Int
structure S58 where
  f0:(List Int)
  f1:Int
structure S84 where
  f0:Int
  f1:Int
def z84:S84:=⟨(0:Int),(0:Int)⟩
def k84:Kd S84:=Kd.iso (Kd.pair (Kd.int .i64) (Kd.int .i64)) (fun x:S84 => (x.f0,x.f1))
theorem k84_open {w:World} {x:S84} {cs:List Value} (h:k84.K w x cs):cs = [.int .i64 x.f0,.int .i64 x.f1]:=by
  obtain ⟨_,_,rfl,rfl,rfl⟩:=h
  exact rfl
theorem k84_mkM (w:World) (base:Nat) (ok:Nat → Prop) (x:S84) :k84.M w base ok x [.int .i64 x.f0,.int .i64 x.f1]:=⟨[.int .i64 x.f0],[.int .i64 x.f1],rfl,rfl,rfl⟩
def rd_T84 (xs:List S84) (i:Int):S84:=xs.getD i.toNat z84
theorem at_T84 {w:World} {A:Option Addr} {n:Nat} {xs:List S84} (h:Kd.C k84 w A n xs) (i:Int) (h0:0 ≤ i) (h1:i < n):∃ ad ,A = some ad ∧ w.cell? (ad.add (i.toNat * 2)) = some (.int .i64 (rd_T84 xs i).f0) ∧ w.cell? ⟨(ad.add (i.toNat * 2)).block,(ad.add (i.toNat * 2)).off + 1,none⟩ = some (.int .i64 (rd_T84 xs i).f1):=by
  obtain ⟨ad,c,e,_,hK,hc0⟩:=Kd.C_get h z84 i h0 h1
  have hc:∀ j u,c[j]? = some u → w.cell? (ad.add (i.toNat * 2 + j)) = some u:=hc0
  obtain rfl:=k84_open hK
  exact ⟨ad,e,hc 0 _ rfl,by rw [← add_field _ _ 1 (by omega)]; exact hc 1 _ rfl⟩

structure S75 where
  f0:Int
  f1:Int
end Go.Proofs.YtehjfaddhmdicaaDoor.P
namespace Go.Proofs.YtehjfaddhmdicaaDoor.P
open Go.RowKit Go.Proofs.YtehjfaddhmdicaaDoorW.PrintWords Go.Proofs.YtehjfaddhmdicaaDoorW.PrintLast Go.Proofs.YtehjfaddhmdicaaDoorW.PrintMore
theorem bk_ {A B:Prop} (a_:A) (h:A → B:=by (intro a_; (with_reducible repeat (first | refine blk_drewN ?_ _ | refine blk_drew ?_ | refine blk_alloc ?_ _)); exact a_)):B:=h a_
theorem bf1_ {A B N1:Prop} (n1_:N1) (a_:A) (h:N1 → A → B:=by (intro n1_ a_; (with_reducible repeat (first | refine blk_drewN ?_ _ | refine blk_drew ?_ | refine blk_alloc ?_ _)); refine blk_far ?_ n1_ _; (with_reducible repeat (first | refine blk_drewN ?_ _ | refine blk_drew ?_ | refine blk_alloc ?_ _)); exact a_)):B:=h n1_ a_
theorem bf2_ {A B N1 N2:Prop} (n1_:N1) (n2_:N2) (a_:A) (h:N1 → N2 → A → B:=by (intro n1_ n2_ a_; (with_reducible repeat (first | refine blk_drewN ?_ _ | refine blk_drew ?_ | refine blk_alloc ?_ _)); refine blk_far ?_ n1_ _; (with_reducible repeat (first | refine blk_drewN ?_ _ | refine blk_drew ?_ | refine blk_alloc ?_ _)); refine blk_far ?_ n2_ _; (with_reducible repeat (first | refine blk_drewN ?_ _ | refine blk_drew ?_ | refine blk_alloc ?_ _)); exact a_)):B:=h n1_ n2_ a_
theorem bf3_ {A B N1 N2 N3:Prop} (n1_:N1) (n2_:N2) (n3_:N3) (a_:A) (h:N1 → N2 → N3 → A → B:=by (intro n1_ n2_ n3_ a_; (with_reducible repeat (first | refine blk_drewN ?_ _ | refine blk_drew ?_ | refine blk_alloc ?_ _)); refine blk_far ?_ n1_ _; (with_reducible repeat (first | refine blk_drewN ?_ _ | refine blk_drew ?_ | refine blk_alloc ?_ _)); refine blk_far ?_ n2_ _; (with_reducible repeat (first | refine blk_drewN ?_ _ | refine blk_drew ?_ | refine blk_alloc ?_ _)); refine blk_far ?_ n3_ _; (with_reducible repeat (first | refine blk_drewN ?_ _ | refine blk_drew ?_ | refine blk_alloc ?_ _)); exact a_)):B:=h n1_ n2_ n3_ a_
theorem bf4_ {A B N1 N2 N3 N4:Prop} (n1_:N1) (n2_:N2) (n3_:N3) (n4_:N4) (a_:A) (h:N1 → N2 → N3 → N4 → A → B:=by (intro n1_ n2_ n3_ n4_ a_; (with_reducible repeat (first | refine blk_drewN ?_ _ | refine blk_drew ?_ | refine blk_alloc ?_ _)); refine blk_far ?_ n1_ _; (with_reducible repeat (first | refine blk_drewN ?_ _ | refine blk_drew ?_ | refine blk_alloc ?_ _)); refine blk_far ?_ n2_ _; (with_reducible repeat (first | refine blk_drewN ?_ _ | refine blk_drew ?_ | refine blk_alloc ?_ _)); refine blk_far ?_ n3_ _; (with_reducible repeat (first | refine blk_drewN ?_ _ | refine blk_drew ?_ | refine blk_alloc ?_ _)); refine blk_far ?_ n4_ _; (with_reducible repeat (first | refine blk_drewN ?_ _ | refine blk_drew ?_ | refine blk_alloc ?_ _)); exact a_)):B:=h n1_ n2_ n3_ n4_ a_
theorem bf5_ {A B N1 N2 N3 N4 N5:Prop} (n1_:N1) (n2_:N2) (n3_:N3) (n4_:N4) (n5_:N5) (a_:A) (h:N1 → N2 → N3 → N4 → N5 → A → B:=by (intro n1_ n2_ n3_ n4_ n5_ a_; (with_reducible repeat (first | refine blk_drewN ?_ _ | refine blk_drew ?_ | refine blk_alloc ?_ _)); refine blk_far ?_ n1_ _; (with_reducible repeat (first | refine blk_drewN ?_ _ | refine blk_drew ?_ | refine blk_alloc ?_ _)); refine blk_far ?_ n2_ _; (with_reducible repeat (first | refine blk_drewN ?_ _ | refine blk_drew ?_ | refine blk_alloc ?_ _)); refine blk_far ?_ n3_ _; (with_reducible repeat (first | refine blk_drewN ?_ _ | refine blk_drew ?_ | refine blk_alloc ?_ _)); refine blk_far ?_ n4_ _; (with_reducible repeat (first | refine blk_drewN ?_ _ | refine blk_drew ?_ | refine blk_alloc ?_ _)); refine blk_far ?_ n5_ _; (with_reducible repeat (first | refine blk_drewN ?_ _ | refine blk_drew ?_ | refine blk_alloc ?_ _)); exact a_)):B:=h n1_ n2_ n3_ n4_ n5_ a_
theorem bf6_ {A B N1 N2 N3 N4 N5 N6:Prop} (n1_:N1) (n2_:N2) (n3_:N3) (n4_:N4) (n5_:N5) (n6_:N6) (a_:A) (h:N1 → N2 → N3 → N4 → N5 → N6 → A → B:=by (intro n1_ n2_ n3_ n4_ n5_ n6_ a_; (with_reducible repeat (first | refine blk_drewN ?_ _ | refine blk_drew ?_ | refine blk_alloc ?_ _)); refine blk_far ?_ n1_ _; (with_reducible repeat (first | refine blk_drewN ?_ _ | refine blk_drew ?_ | refine blk_alloc ?_ _)); refine blk_far ?_ n2_ _; (with_reducible repeat (first | refine blk_drewN ?_ _ | refine blk_drew ?_ | refine blk_alloc ?_ _)); refine blk_far ?_ n3_ _; (with_reducible repeat (first | refine blk_drewN ?_ _ | refine blk_drew ?_ | refine blk_alloc ?_ _)); refine blk_far ?_ n4_ _; (with_reducible repeat (first | refine blk_drewN ?_ _ | refine blk_drew ?_ | refine blk_alloc ?_ _)); refine blk_far ?_ n5_ _; (with_reducible repeat (first | refine blk_drewN ?_ _ | refine blk_drew ?_ | refine blk_alloc ?_ _)); refine blk_far ?_ n6_ _; (with_reducible repeat (first | refine blk_drewN ?_ _ | refine blk_drew ?_ | refine blk_alloc ?_ _)); exact a_)):B:=h n1_ n2_ n3_ n4_ n5_ n6_ a_
theorem bf7_ {A B N1 N2 N3 N4 N5 N6 N7:Prop} (n1_:N1) (n2_:N2) (n3_:N3) (n4_:N4) (n5_:N5) (n6_:N6) (n7_:N7) (a_:A) (h:N1 → N2 → N3 → N4 → N5 → N6 → N7 → A → B:=by (intro n1_ n2_ n3_ n4_ n5_ n6_ n7_ a_; (with_reducible repeat (first | refine blk_drewN ?_ _ | refine blk_drew ?_ | refine blk_alloc ?_ _)); refine blk_far ?_ n1_ _; (with_reducible repeat (first | refine blk_drewN ?_ _ | refine blk_drew ?_ | refine blk_alloc ?_ _)); refine blk_far ?_ n2_ _; (with_reducible repeat (first | refine blk_drewN ?_ _ | refine blk_drew ?_ | refine blk_alloc ?_ _)); refine blk_far ?_ n3_ _; (with_reducible repeat (first | refine blk_drewN ?_ _ | refine blk_drew ?_ | refine blk_alloc ?_ _)); refine blk_far ?_ n4_ _; (with_reducible repeat (first | refine blk_drewN ?_ _ | refine blk_drew ?_ | refine blk_alloc ?_ _)); refine blk_far ?_ n5_ _; (with_reducible repeat (first | refine blk_drewN ?_ _ | refine blk_drew ?_ | refine blk_alloc ?_ _)); refine blk_far ?_ n6_ _; (with_reducible repeat (first | refine blk_drewN ?_ _ | refine blk_drew ?_ | refine blk_alloc ?_ _)); refine blk_far ?_ n7_ _; (with_reducible repeat (first | refine blk_drewN ?_ _ | refine blk_drew ?_ | refine blk_alloc ?_ _)); exact a_)):B:=h n1_ n2_ n3_ n4_ n5_ n6_ n7_ a_
theorem bf8_ {A B N1 N2 N3 N4 N5 N6 N7 N8:Prop} (n1_:N1) (n2_:N2) (n3_:N3) (n4_:N4) (n5_:N5) (n6_:N6) (n7_:N7) (n8_:N8) (a_:A) (h:N1 → N2 → N3 → N4 → N5 → N6 → N7 → N8 → A → B:=by (intro n1_ n2_ n3_ n4_ n5_ n6_ n7_ n8_ a_; (with_reducible repeat (first | refine blk_drewN ?_ _ | refine blk_drew ?_ | refine blk_alloc ?_ _)); refine blk_far ?_ n1_ _; (with_reducible repeat (first | refine blk_drewN ?_ _ | refine blk_drew ?_ | refine blk_alloc ?_ _)); refine blk_far ?_ n2_ _; (with_reducible repeat (first | refine blk_drewN ?_ _ | refine blk_drew ?_ | refine blk_alloc ?_ _)); refine blk_far ?_ n3_ _; (with_reducible repeat (first | refine blk_drewN ?_ _ | refine blk_drew ?_ | refine blk_alloc ?_ _)); refine blk_far ?_ n4_ _; (with_reducible repeat (first | refine blk_drewN ?_ _ | refine blk_drew ?_ | refine blk_alloc ?_ _)); refine blk_far ?_ n5_ _; (with_reducible repeat (first | refine blk_drewN ?_ _ | refine blk_drew ?_ | refine blk_alloc ?_ _)); refine blk_far ?_ n6_ _; (with_reducible repeat (first | refine blk_drewN ?_ _ | refine blk_drew ?_ | refine blk_alloc ?_ _)); refine blk_far ?_ n7_ _; (with_reducible repeat (first | refine blk_drewN ?_ _ | refine blk_drew ?_ | refine blk_alloc ?_ _)); refine blk_far ?_ n8_ _; (with_reducible repeat (first | refine blk_drewN ?_ _ | refine blk_drew ?_ | refine blk_alloc ?_ _)); exact a_)):B:=h n1_ n2_ n3_ n4_ n5_ n6_ n7_ n8_ a_
theorem bl0_ {A B :Prop} (a_:A)  (h:A → B:=by (intro a_ ; repeat (first | (with_reducible first | exact a_ | apply below_alloc | apply pw_below_drewN | apply below_drew1) | exact a_))):B:=h a_ 
theorem bl1_ {A B N1:Prop} (a_:A) (n1_:N1) (h:A → N1 → B:=by (intro a_ n1_; repeat (first | (with_reducible first | exact a_ | apply below_alloc | apply pw_below_drewN | apply below_drew1 | refine below_set ?_ n1_) | exact a_))):B:=h a_ n1_
theorem bl2_ {A B N1 N2:Prop} (a_:A) (n1_:N1) (n2_:N2) (h:A → N1 → N2 → B:=by (intro a_ n1_ n2_; repeat (first | (with_reducible first | exact a_ | apply below_alloc | apply pw_below_drewN | apply below_drew1 | refine below_set ?_ n1_ | refine below_set ?_ n2_) | exact a_))):B:=h a_ n1_ n2_
theorem bl3_ {A B N1 N2 N3:Prop} (a_:A) (n1_:N1) (n2_:N2) (n3_:N3) (h:A → N1 → N2 → N3 → B:=by (intro a_ n1_ n2_ n3_; repeat (first | (with_reducible first | exact a_ | apply below_alloc | apply pw_below_drewN | apply below_drew1 | refine below_set ?_ n1_ | refine below_set ?_ n2_ | refine below_set ?_ n3_) | exact a_))):B:=h a_ n1_ n2_ n3_
theorem bl4_ {A B N1 N2 N3 N4:Prop} (a_:A) (n1_:N1) (n2_:N2) (n3_:N3) (n4_:N4) (h:A → N1 → N2 → N3 → N4 → B:=by (intro a_ n1_ n2_ n3_ n4_; repeat (first | (with_reducible first | exact a_ | apply below_alloc | apply pw_below_drewN | apply below_drew1 | refine below_set ?_ n1_ | refine below_set ?_ n2_ | refine below_set ?_ n3_ | refine below_set ?_ n4_) | exact a_))):B:=h a_ n1_ n2_ n3_ n4_
theorem bl5_ {A B N1 N2 N3 N4 N5:Prop} (a_:A) (n1_:N1) (n2_:N2) (n3_:N3) (n4_:N4) (n5_:N5) (h:A → N1 → N2 → N3 → N4 → N5 → B:=by (intro a_ n1_ n2_ n3_ n4_ n5_; repeat (first | (with_reducible first | exact a_ | apply below_alloc | apply pw_below_drewN | apply below_drew1 | refine below_set ?_ n1_ | refine below_set ?_ n2_ | refine below_set ?_ n3_ | refine below_set ?_ n4_ | refine below_set ?_ n5_) | exact a_))):B:=h a_ n1_ n2_ n3_ n4_ n5_
theorem bl6_ {A B N1 N2 N3 N4 N5 N6:Prop} (a_:A) (n1_:N1) (n2_:N2) (n3_:N3) (n4_:N4) (n5_:N5) (n6_:N6) (h:A → N1 → N2 → N3 → N4 → N5 → N6 → B:=by (intro a_ n1_ n2_ n3_ n4_ n5_ n6_; repeat (first | (with_reducible first | exact a_ | apply below_alloc | apply pw_below_drewN | apply below_drew1 | refine below_set ?_ n1_ | refine below_set ?_ n2_ | refine below_set ?_ n3_ | refine below_set ?_ n4_ | refine below_set ?_ n5_ | refine below_set ?_ n6_) | exact a_))):B:=h a_ n1_ n2_ n3_ n4_ n5_ n6_
theorem bl7_ {A B N1 N2 N3 N4 N5 N6 N7:Prop} (a_:A) (n1_:N1) (n2_:N2) (n3_:N3) (n4_:N4) (n5_:N5) (n6_:N6) (n7_:N7) (h:A → N1 → N2 → N3 → N4 → N5 → N6 → N7 → B:=by (intro a_ n1_ n2_ n3_ n4_ n5_ n6_ n7_; repeat (first | (with_reducible first | exact a_ | apply below_alloc | apply pw_below_drewN | apply below_drew1 | refine below_set ?_ n1_ | refine below_set ?_ n2_ | refine below_set ?_ n3_ | refine below_set ?_ n4_ | refine below_set ?_ n5_ | refine below_set ?_ n6_ | refine below_set ?_ n7_) | exact a_))):B:=h a_ n1_ n2_ n3_ n4_ n5_ n6_ n7_
theorem bl8_ {A B N1 N2 N3 N4 N5 N6 N7 N8:Prop} (a_:A) (n1_:N1) (n2_:N2) (n3_:N3) (n4_:N4) (n5_:N5) (n6_:N6) (n7_:N7) (n8_:N8) (h:A → N1 → N2 → N3 → N4 → N5 → N6 → N7 → N8 → B:=by (intro a_ n1_ n2_ n3_ n4_ n5_ n6_ n7_ n8_; repeat (first | (with_reducible first | exact a_ | apply below_alloc | apply pw_below_drewN | apply below_drew1 | refine below_set ?_ n1_ | refine below_set ?_ n2_ | refine below_set ?_ n3_ | refine below_set ?_ n4_ | refine below_set ?_ n5_ | refine below_set ?_ n6_ | refine below_set ?_ n7_ | refine below_set ?_ n8_) | exact a_))):B:=h a_ n1_ n2_ n3_ n4_ n5_ n6_ n7_ n8_
theorem nl_ {w0 W:World} {g gb:Nat} {o:Obj} (hg:gb = W.heap.size) (a_:w0.heap[g]? = some o) (h:w0.heap[g]? = some o → W.heap[g]? = some o:=by (intro a_; (with_reducible repeat (first | refine blk_drewN ?_ _ | refine blk_drew ?_ | refine blk_alloc ?_ _)); exact a_)):g ≠ gb:=by rw [hg]; exact Nat.ne_of_lt (blk_lt (h a_))
theorem ng_ {w0 W:World} {g gb:Nat} {o:Obj} (hg:gb = W.heap.size) (a_:w0.heap[g]? = some o) (h:w0.heap[g]? = some o → W.heap[g]? = some o:=by (intro a_; (with_reducible repeat (first | refine blk_drewN ?_ _ | refine blk_drew ?_ | refine blk_alloc ?_ _)); exact a_)):gb ≠ g:=by rw [hg]; exact Nat.ne_of_gt (blk_lt (h a_))
theorem bb_ {w0 W W2:World} {g:Nat} {o:Obj} (a_:w0.heap[g]? = some o) (hb:Below W.heap.size W W2) (h:w0.heap[g]? = some o → W.heap[g]? = some o:=by (intro a_; (with_reducible repeat (first | refine blk_drewN ?_ _ | refine blk_drew ?_ | refine blk_alloc ?_ _)); exact a_)):W2.heap[g]? = some o:=blk_below (h a_) hb
theorem bs0_ {A :Prop} {w W:World} {gb:Nat} (hg:gb = W.heap.size) (a_:A)  (h:A → Below w.heap.size w W:=by (intro a_ ; repeat (first | (with_reducible first | exact a_ | apply below_alloc | apply pw_below_drewN | apply below_drew1) | exact a_))):w.heap.size ≤ gb:=by rw [hg]; exact below_size (h a_ )
theorem bs1_ {A N1:Prop} {w W:World} {gb:Nat} (hg:gb = W.heap.size) (a_:A) (n1_:N1) (h:A → N1 → Below w.heap.size w W:=by (intro a_ n1_; repeat (first | (with_reducible first | exact a_ | apply below_alloc | apply pw_below_drewN | apply below_drew1 | refine below_set ?_ n1_) | exact a_))):w.heap.size ≤ gb:=by rw [hg]; exact below_size (h a_ n1_)
theorem bs2_ {A N1 N2:Prop} {w W:World} {gb:Nat} (hg:gb = W.heap.size) (a_:A) (n1_:N1) (n2_:N2) (h:A → N1 → N2 → Below w.heap.size w W:=by (intro a_ n1_ n2_; repeat (first | (with_reducible first | exact a_ | apply below_alloc | apply pw_below_drewN | apply below_drew1 | refine below_set ?_ n1_ | refine below_set ?_ n2_) | exact a_))):w.heap.size ≤ gb:=by rw [hg]; exact below_size (h a_ n1_ n2_)
theorem bs3_ {A N1 N2 N3:Prop} {w W:World} {gb:Nat} (hg:gb = W.heap.size) (a_:A) (n1_:N1) (n2_:N2) (n3_:N3) (h:A → N1 → N2 → N3 → Below w.heap.size w W:=by (intro a_ n1_ n2_ n3_; repeat (first | (with_reducible first | exact a_ | apply below_alloc | apply pw_below_drewN | apply below_drew1 | refine below_set ?_ n1_ | refine below_set ?_ n2_ | refine below_set ?_ n3_) | exact a_))):w.heap.size ≤ gb:=by rw [hg]; exact below_size (h a_ n1_ n2_ n3_)
theorem bs4_ {A N1 N2 N3 N4:Prop} {w W:World} {gb:Nat} (hg:gb = W.heap.size) (a_:A) (n1_:N1) (n2_:N2) (n3_:N3) (n4_:N4) (h:A → N1 → N2 → N3 → N4 → Below w.heap.size w W:=by (intro a_ n1_ n2_ n3_ n4_; repeat (first | (with_reducible first | exact a_ | apply below_alloc | apply pw_below_drewN | apply below_drew1 | refine below_set ?_ n1_ | refine below_set ?_ n2_ | refine below_set ?_ n3_ | refine below_set ?_ n4_) | exact a_))):w.heap.size ≤ gb:=by rw [hg]; exact below_size (h a_ n1_ n2_ n3_ n4_)
theorem bs5_ {A N1 N2 N3 N4 N5:Prop} {w W:World} {gb:Nat} (hg:gb = W.heap.size) (a_:A) (n1_:N1) (n2_:N2) (n3_:N3) (n4_:N4) (n5_:N5) (h:A → N1 → N2 → N3 → N4 → N5 → Below w.heap.size w W:=by (intro a_ n1_ n2_ n3_ n4_ n5_; repeat (first | (with_reducible first | exact a_ | apply below_alloc | apply pw_below_drewN | apply below_drew1 | refine below_set ?_ n1_ | refine below_set ?_ n2_ | refine below_set ?_ n3_ | refine below_set ?_ n4_ | refine below_set ?_ n5_) | exact a_))):w.heap.size ≤ gb:=by rw [hg]; exact below_size (h a_ n1_ n2_ n3_ n4_ n5_)
theorem bs6_ {A N1 N2 N3 N4 N5 N6:Prop} {w W:World} {gb:Nat} (hg:gb = W.heap.size) (a_:A) (n1_:N1) (n2_:N2) (n3_:N3) (n4_:N4) (n5_:N5) (n6_:N6) (h:A → N1 → N2 → N3 → N4 → N5 → N6 → Below w.heap.size w W:=by (intro a_ n1_ n2_ n3_ n4_ n5_ n6_; repeat (first | (with_reducible first | exact a_ | apply below_alloc | apply pw_below_drewN | apply below_drew1 | refine below_set ?_ n1_ | refine below_set ?_ n2_ | refine below_set ?_ n3_ | refine below_set ?_ n4_ | refine below_set ?_ n5_ | refine below_set ?_ n6_) | exact a_))):w.heap.size ≤ gb:=by rw [hg]; exact below_size (h a_ n1_ n2_ n3_ n4_ n5_ n6_)
theorem bs7_ {A N1 N2 N3 N4 N5 N6 N7:Prop} {w W:World} {gb:Nat} (hg:gb = W.heap.size) (a_:A) (n1_:N1) (n2_:N2) (n3_:N3) (n4_:N4) (n5_:N5) (n6_:N6) (n7_:N7) (h:A → N1 → N2 → N3 → N4 → N5 → N6 → N7 → Below w.heap.size w W:=by (intro a_ n1_ n2_ n3_ n4_ n5_ n6_ n7_; repeat (first | (with_reducible first | exact a_ | apply below_alloc | apply pw_below_drewN | apply below_drew1 | refine below_set ?_ n1_ | refine below_set ?_ n2_ | refine below_set ?_ n3_ | refine below_set ?_ n4_ | refine below_set ?_ n5_ | refine below_set ?_ n6_ | refine below_set ?_ n7_) | exact a_))):w.heap.size ≤ gb:=by rw [hg]; exact below_size (h a_ n1_ n2_ n3_ n4_ n5_ n6_ n7_)
theorem bs8_ {A N1 N2 N3 N4 N5 N6 N7 N8:Prop} {w W:World} {gb:Nat} (hg:gb = W.heap.size) (a_:A) (n1_:N1) (n2_:N2) (n3_:N3) (n4_:N4) (n5_:N5) (n6_:N6) (n7_:N7) (n8_:N8) (h:A → N1 → N2 → N3 → N4 → N5 → N6 → N7 → N8 → Below w.heap.size w W:=by (intro a_ n1_ n2_ n3_ n4_ n5_ n6_ n7_ n8_; repeat (first | (with_reducible first | exact a_ | apply below_alloc | apply pw_below_drewN | apply below_drew1 | refine below_set ?_ n1_ | refine below_set ?_ n2_ | refine below_set ?_ n3_ | refine below_set ?_ n4_ | refine below_set ?_ n5_ | refine below_set ?_ n6_ | refine below_set ?_ n7_ | refine below_set ?_ n8_) | exact a_))):w.heap.size ≤ gb:=by rw [hg]; exact below_size (h a_ n1_ n2_ n3_ n4_ n5_ n6_ n7_ n8_)
theorem ap_ {A:Prop} (h:A:=by (show Act.put _ (some _) _ = _; simp only [Act.put,List.setIfInBounds_toArray,List.set_cons_zero,List.set_cons_succ,i64_w,i32_w]; rfl)):A:=h
theorem er_ {A:Prop} (h:A:=by (first | rfl | (simp [errW_none,errW_some] <;> rfl) | (simp [*,errW_none,errW_some] <;> rfl))):A:=h
theorem kr_ {A B:Prop} (a_:A) (h:A → B:=by (intro a_; (with_reducible repeat (first | apply Kd.R_alloc | apply Kd.R_drewN | apply Kd.R_drew)); exact a_)):B:=h a_
theorem kc_ {A B:Prop} (a_:A) (h:A → B:=by (intro a_; repeat (first | exact a_ | (with_reducible refine Kd.C_alloc ?_ _) | (with_reducible refine Kd.C_drewN ?_ _) | (with_reducible refine Kd.C_drew ?_)))):B:=h a_
theorem ob_ {A:Prop} (h:A:=by ((try simp only [List.map_toArray,List.map_cons,List.map_nil]); first | done | rfl | (simp only [List.length_drop,List.length_take]; rfl))):A:=h
theorem rs_ {A:Prop} (h:A:=by (first | rfl | (simp; done) | (simp [*]; done))):A:=h
theorem as_ {A:Prop} (h:A:=by (first | (with_reducible assumption) | assumption)):A:=h
theorem boxE_ {P:Program} {ops:Array Oper} {Q:Exit → Act → World → Prop} {rest:List Oper} {a:Act} {o:Oper} {W:World} {N:Tmp} {cs:Array Value} {t:TypeId}
  (h:∀ g,g = W.heap.size → ∀ w1,w1.heap[g]? = some (.cells cs t (0,0)) → Below W.heap.size W w1 → wpList P ops Q rest (a.put o.dst (.pointer (some ⟨g,0,none⟩))) w1)
  (hd:o.dst = some N:=by rfl) (hg:o.guard = none:=by rfl) (hr:(execOp a.eval o).run P W = .ok (.value (.pointer (some ⟨W.heap.size,0,none⟩))) (W.alloc (.cells cs t (0,0))):=by first | (go_simp; done) | (go_simp; rfl)):wpList P ops Q (o :: rest) a W :=
 box_event hg hd hr h
theorem am_ {p:Prop} (h:p):Aside0 p:=⟨h⟩
theorem bc_ {w:World} {g:Nat} {t:TypeId} {cs:Array Value} (h:w.heap[g]? = some (.cells cs t (0,0))) (i:Nat):w.cell? ⟨g,i,none⟩ = cs[i]?:=blk_cell h i
theorem bz_ {w:World} {g:Nat} {t:TypeId} {cs:Array Value} (h:w.heap[g]? = some (.cells cs t (0,0))) (i:Nat):w.frozen? ⟨g,i,none⟩ = false:=blk_frozen h i
theorem wl_ (w:World) (a:Addr) {u:Value} (h:w.cell? a = some u):a.block < w.heap.size:=World.block_lt_of_cell? w a h
theorem bi_ {α β:Type} {o:Option α} {f:α → Option β} {b:β} (h:o.bind f = some b):∃ a,o = some a ∧ f a = some b:=Option.bind_eq_some_iff.mp h
end Go.Proofs.YtehjfaddhmdicaaDoor.P
namespace Go.Proofs.YtehjfaddhmdicaaDoor.P
open Go.RowKit Go.Proofs.YtehjfaddhmdicaaDoorW.PrintWords Go.Proofs.YtehjfaddhmdicaaDoorW.PrintLast Go.Proofs.YtehjfaddhmdicaaDoorW.PrintMore
attribute [local go_sem] max2_int min2_int max_two min_two max_three min_three max_four min_four   -- for this text's walks alone
set_option linter.unusedVariables false
set_option linter.unusedSimpArgs false

def TBM (w:World):Prop:=∃ m:Int,w.cell? ⟨1,0,none⟩ = some (.int .i64 m)
theorem TBM.below {w w':World} (h:TBM w) (hb:Below w.heap.size w w'):TBM w':=by
  first
    | exact trivial
    | (obtain ⟨m,hm⟩:=h; exact ⟨m,pw_cell_below hb hm⟩)
def TB (w:World):Prop:=(∀ j,j < 64 → w.cell? ⟨0,j,none⟩ = some (.int .u8 (Lib.deBruijn64tab.getD j 0))) ∧ TBM w
theorem TB.below {w w':World} (h:TB w) (hb:Below w.heap.size w w'):TB w':=⟨fun j hj => pw_cell_below hb (h.1 j hj),h.2.below hb⟩
theorem TB.lt {w:World} (h:TB w):0 < w.heap.size:=wl_ w _ (h.1 0 (by omega))
theorem tz_key (x a:Nat) (hx:x < 18446744073709551616) (hx0:x ≠ 0) (hlow:x &&& (18446744073709551616 - x) = a) :
    IntKind.u64.wrap (bits BinOp.and IntKind.u64 (x:Int) (IntKind.u64.wrap (-(x:Int))) * 285870213051353865) / 288230376151711744 = ((a * 285870213051353865 % 18446744073709551616 / 288230376151711744:Nat):Int):=by
  have e1:IntKind.u64.wrap (-(x:Int)) = ((18446744073709551616 - x:Nat):Int):=by rw [IntKind.wrap_u64]; omega
  rw [e1,bits_and_u64_nat x _ hx (by omega),hlow,IntKind.wrap_u64]
  omega
set_option maxHeartbeats 1000000 in
theorem tz_core (x k idx:Nat) (w:World) (hx0:((x:Int) == 0) = false)
    (key:IntKind.u64.wrap (bits BinOp.and IntKind.u64 (x:Int) (IntKind.u64.wrap (-(x:Int))) * 285870213051353865) / 288230376151711744 = (idx:Int))
    (hi:idx < 64) (hk:k < 64) (hcell:w.cell? ⟨0,idx,none⟩ = some (.int .u8 k)) :
    Calls Tryd.prog 126 #[.int .u64 x] w fun e w' => e = .returned (.int .i64 k) ∧ w' = w:=by
  go_enter Tryd.func126,Tryd.ntmps126
  go_wp2_with (simp only [key])
  go_ret
  exact ⟨rfl,rfl⟩
theorem tz_any (x:Nat) (hx:x < 2 ^ 60) (hx0:x ≠ 0) (w:World) (hT:TB w) :
    Calls Tryd.prog 126 #[.int .u64 x] w fun e w' => e = .returned (.int .i64 (Lib.ctz 64 x)) ∧ w = w':=by
  have hx2:x < 18446744073709551616:=by omega
  obtain ⟨hlow,hk⟩:=Lib.lowest_bit 64 x hx0 hx2
  obtain ⟨hi,htab⟩:=Lib.deBruijn64_at _ hk
  have hcell:=hT.1 _ hi
  rw [htab] at hcell
  exact (tz_core x _ _ w (by simp; omega) (tz_key x _ hx2 hx0 hlow) hi hk hcell).mono fun _ _ h => ⟨h.1,h.2.symm⟩


def laws_eqIntS.l0:Nat → List Int → List Int → Int → Option (Bool)
  | 0,_,_,_ => none
  | k + 1,x0,x1,x5 => if x5 < (x0.length:Int) then (if 0 ≤ x5 then (if x5 < (x1.length:Int) then (if (rd x0 x5) = (rd x1 x5) then (laws_eqIntS.l0 k x0 x1 (wrap64 (x5 + 1))) else (some false)) else (none)) else (none)) else (some true)
def laws_eqIntS.f (k:Nat) (l0:List Int) (l1:List Int):Option (Bool):=if (l0.length:Int) = (l1.length:Int) then (laws_eqIntS.l0 k l0 l1 0) else (some false)
theorem laws_eqIntS.mono_l:∀ k,(∀ y0 y1 y2,LeO (laws_eqIntS.l0 k y0 y1 y2) (laws_eqIntS.l0 (k + 1) y0 y1 y2))
  | 0 => fun _ _ _ r h => by simp [laws_eqIntS.l0] at h
  | k + 1 => by
    have ih0:=laws_eqIntS.mono_l k
    · intro y0 y1 y2
      unfold laws_eqIntS.l0
      repeat' first | (with_reducible first | exact ih0 _ _ _ | exact LeO.refl _ | exact LeO.none _ | refine LeO.ite ?_ ?_ | refine LeO.bind ?_ (fun _ => ?_)) | exact ih0 _ _ _
theorem laws_eqIntS.mono:∀ a0 a1 k,LeO (laws_eqIntS.f k a0 a1) (laws_eqIntS.f (k + 1) a0 a1):=by
  intro a0 a1 k
  have ih0:=laws_eqIntS.mono_l k
  unfold laws_eqIntS.f
  repeat' first | (with_reducible first | exact ih0 _ _ _ | exact LeO.refl _ | exact LeO.none _ | refine LeO.ite ?_ ?_ | refine LeO.bind ?_ (fun _ => ?_)) | exact ih0 _ _ _
set_option maxHeartbeats 8000000 in
set_option maxRecDepth 100000 in
theorem laws_eqIntS.calls (k:Nat) (A0:Option Addr) (c0:Nat) (l0:List Int) (A1:Option Addr) (c1:Nat) (l1:List Int) (r:Bool) (w:World) (hr0:Kd.C (Kd.int .i64) w A0 l0.length l0) (hc0:l0.length ≤ c0) (hr1:Kd.C (Kd.int .i64) w A1 l1.length l1) (hc1:l1.length ≤ c1) (h:laws_eqIntS.f k l0 l1 = some r) :
    Calls Tryd.prog 58 #[.slice A0 l0.length c0,.slice A1 l1.length c1] w fun e w' => e = .returned (.bool r) ∧ Drawn0 w w':=by
  have HR0:=am_ hr0
  have HC0:=am_ hc0
  clear hr0 hc0
  have HR1:=am_ hr1
  have HC1:=am_ hc1
  clear hr1 hc1
  have H:(if (l0.length:Int) = (l1.length:Int) then (laws_eqIntS.l0 k l0 l1 0) else (some false)) = some r:=h
  clear h
  by_cases c3:(l0.length:Int) = (l1.length:Int)
  · rw [if_pos c3] at H
    have c3b0:((l0.length:Int) == (l1.length:Int)) = true:=beq_iff_eq.mpr c3
    have c3b1:((l0.length:Int) != (l1.length:Int)) = false:=bne_eq_false_iff_eq.mpr c3
    have c3b2:(l0.length == l1.length) = true:=by first | simpa using c3 | (simp at c3 ⊢; omega)
    clear c3
    have H':=am_ H
    clear H
    go_enter Tryd.func58,Tryd.ntmps58
    go_wp2
    repeat (go_quiet (fail); try go_wp2)
    go_loopg [5] k (fun kq v5 w' => ∃ (x5_1:Int),v5 = .int .i64 x5_1 ∧ Aside0 (laws_eqIntS.l0 kq l0 l1 x5_1 = some r) ∧ Aside0 (kq ≤ k) ∧ Drawn0 w w')
    case atStart => exact ⟨(0),rs_,H',⟨Nat.le_refl _⟩,by repeat (first | exact Drawn0.refl _ | apply Drawn0.step)⟩
    case round =>
      clear H'
      try clear c1
      try clear p2
      try clear c3
      try clear c3b0
      try clear c3b1
      try clear c3b2
      obtain ⟨x5_1,rfl,HA,HK1,⟨m1,rfl⟩⟩:=hrel
      cases gk with
      | zero => exact absurd HA.out (by simp [laws_eqIntS.l0])
      | succ k1 =>
        have H:=HA.out
        clear HA
        simp only [laws_eqIntS.l0] at H
        by_cases c4:x5_1 < (l0.length:Int)
        · rw [if_pos c4] at H
          have c4b0:decide (x5_1 < (l0.length:Int)) = true:=decide_eq_true c4
          clear c4
          by_cases c5:0 ≤ x5_1
          · rw [if_pos c5] at H
            have c5b0:decide (0 ≤ x5_1) = true:=decide_eq_true c5
            clear c5
            by_cases c6:x5_1 < (l1.length:Int)
            · rw [if_pos c6] at H
              have c6b0:decide (x5_1 < (l1.length:Int)) = true:=decide_eq_true c6
              clear c6
              by_cases c7:(rd l0 x5_1) = (rd l1 x5_1)
              · rw [if_pos c7] at H
                have c7b0:((rd l0 x5_1) == (rd l1 x5_1)) = true:=beq_iff_eq.mpr c7
                have c7b1:((rd l0 x5_1) != (rd l1 x5_1)) = false:=bne_eq_false_iff_eq.mpr c7
                clear c7
                have H':=am_ H
                clear H
                have p179:0 ≤ (x5_1:Int):=of_decide_eq_true as_
                have q179:x5_1 < (l0.length:Int):=of_decide_eq_true as_
                obtain ⟨ad179,e179,hx179_0⟩:=Kd.at_int HR0.out x5_1 p179 q179
                cases e179
                replace p179:=eq_true p179
                replace q179:=eq_true q179
                have p180:0 ≤ (x5_1:Int):=of_decide_eq_true as_
                have q180:x5_1 < (l1.length:Int):=of_decide_eq_true as_
                obtain ⟨ad180,e180,hx180_0⟩:=Kd.at_int HR1.out x5_1 p180 q180
                cases e180
                replace p180:=eq_true p180
                replace q180:=eq_true q180
                go_wp2
                repeat (go_quiet (fail); try go_wp2)
                go_roundg k1
                case measure => have:=HK1.out; omega
                case rel => exact ⟨(wrap64 (x5_1 + 1)),rs_,H',⟨by have:=HK1.out; omega⟩,by repeat (first | exact Drawn0.refl _ | apply Drawn0.step)⟩
              · rw [if_neg c7] at H
                have c7b0:((rd l0 x5_1) == (rd l1 x5_1)) = false:=beq_eq_false_iff_ne.mpr c7
                have c7b1:((rd l0 x5_1) != (rd l1 x5_1)) = true:=bne_iff_ne.mpr c7
                obtain rfl:=Option.some.inj H
                have p179:0 ≤ (x5_1:Int):=of_decide_eq_true as_
                have q179:x5_1 < (l0.length:Int):=of_decide_eq_true as_
                obtain ⟨ad179,e179,hx179_0⟩:=Kd.at_int HR0.out x5_1 p179 q179
                cases e179
                replace p179:=eq_true p179
                replace q179:=eq_true q179
                have p180:0 ≤ (x5_1:Int):=of_decide_eq_true as_
                have q180:x5_1 < (l1.length:Int):=of_decide_eq_true as_
                obtain ⟨ad180,e180,hx180_0⟩:=Kd.at_int HR1.out x5_1 p180 q180
                cases e180
                replace p180:=eq_true p180
                replace q180:=eq_true q180
                go_wp2
                repeat (go_quiet (fail); try go_wp2)
                go_ret
                exact ⟨by first | rfl | (simp; done) | (simp [*]; done),by repeat (first | exact Drawn0.refl _ | apply Drawn0.step)⟩
            · rw [if_neg c6] at H
              exact absurd H (by simp)
          · rw [if_neg c5] at H
            exact absurd H (by simp)
        · rw [if_neg c4] at H
          have c4b0:decide (x5_1 < (l0.length:Int)) = false:=decide_eq_false c4
          clear c4
          obtain rfl:=Option.some.inj H
          go_wp2
          repeat (go_quiet (fail); try go_wp2)
          go_ret
          exact ⟨by first | rfl | (simp; done) | (simp [*]; done),by repeat (first | exact Drawn0.refl _ | apply Drawn0.step)⟩
  · rw [if_neg c3] at H
    have c3b0:((l0.length:Int) == (l1.length:Int)) = false:=beq_eq_false_iff_ne.mpr c3
    have c3b1:((l0.length:Int) != (l1.length:Int)) = true:=bne_iff_ne.mpr c3
    have c3b2:(l0.length == l1.length) = false:=by first | simpa using c3 | (simp at c3 ⊢; omega)
    obtain rfl:=Option.some.inj H
    go_enter Tryd.func58,Tryd.ntmps58
    go_wp2
    repeat (go_quiet (fail); try go_wp2)
    go_ret
    exact ⟨by first | rfl | (simp; done) | (simp [*]; done),by repeat (first | exact Drawn0.refl _ | apply Drawn0.step)⟩


def laws_eqFigure.f (k:Nat) (a0_0:Int) (a0_1:Int) (l0_2:List Int) (l0_3:List Int) (a1_0:Int) (a1_1:Int) (l1_2:List Int) (l1_3:List Int):Option (Bool):=if a0_0 = a1_0 then (if a0_1 = a1_1 then ((laws_eqIntS.f k l0_2 l1_2).bind fun t183 => (if t183 = true then ((laws_eqIntS.f k l0_3 l1_3).bind fun t184 => (if t184 = true then (some true) else (some false))) else (some false))) else (some false)) else (some false)
theorem laws_eqFigure.mono:∀ a0 a1 a2 a3 a4 a5 a6 a7 k,LeO (laws_eqFigure.f k a0 a1 a2 a3 a4 a5 a6 a7) (laws_eqFigure.f (k + 1) a0 a1 a2 a3 a4 a5 a6 a7):=by
 intro a0 a1 a2 a3 a4 a5 a6 a7 k
 unfold laws_eqFigure.f
 repeat' first | (with_reducible first | exact laws_eqIntS.mono _ _ _ | exact LeO.refl _ | exact LeO.none _ | refine LeO.ite ?_ ?_ | refine LeO.bind ?_ (fun _ => ?_)) | exact laws_eqIntS.mono _ _ _
set_option maxHeartbeats 8000000 in
set_option maxRecDepth 100000 in
theorem laws_eqFigure.calls (k:Nat) (a0_0:Int) (a0_1:Int) (A0_2:Option Addr) (c0_2:Nat) (l0_2:List Int) (A0_3:Option Addr) (c0_3:Nat) (l0_3:List Int) (a1_0:Int) (a1_1:Int) (A1_2:Option Addr) (c1_2:Nat) (l1_2:List Int) (A1_3:Option Addr) (c1_3:Nat) (l1_3:List Int) (r:Bool) (w:World) (hr0_2:Kd.C (Kd.int .i64) w A0_2 l0_2.length l0_2) (hc0_2:l0_2.length ≤ c0_2) (hr0_3:Kd.C (Kd.int .i64) w A0_3 l0_3.length l0_3) (hc0_3:l0_3.length ≤ c0_3) (hr1_2:Kd.C (Kd.int .i64) w A1_2 l1_2.length l1_2) (hc1_2:l1_2.length ≤ c1_2) (hr1_3:Kd.C (Kd.int .i64) w A1_3 l1_3.length l1_3) (hc1_3:l1_3.length ≤ c1_3) (h:laws_eqFigure.f k a0_0 a0_1 l0_2 l0_3 a1_0 a1_1 l1_2 l1_3 = some r) :
  Calls Tryd.prog 23 #[.agg #[.int .i64 a0_0,.int .i64 a0_1,.slice A0_2 l0_2.length c0_2,.slice A0_3 l0_3.length c0_3],.agg #[.int .i64 a1_0,.int .i64 a1_1,.slice A1_2 l1_2.length c1_2,.slice A1_3 l1_3.length c1_3]] w fun e w' => e = .returned (.bool r) ∧ Below w.heap.size w w':=by
 have hu36:=Tryd.underlying36
 have HR0_2:=am_ hr0_2
 have HC0_2:=am_ hc0_2
 clear hr0_2 hc0_2
 have HR0_3:=am_ hr0_3
 have HC0_3:=am_ hc0_3
 clear hr0_3 hc0_3
 have HR1_2:=am_ hr1_2
 have HC1_2:=am_ hc1_2
 clear hr1_2 hc1_2
 have HR1_3:=am_ hr1_3
 have HC1_3:=am_ hc1_3
 clear hr1_3 hc1_3
 have HB:=am_ (Below.refl w.heap.size w)
 have H:(if a0_0 = a1_0 then (if a0_1 = a1_1 then ((laws_eqIntS.f k l0_2 l1_2).bind fun t183 => (if t183 = true then ((laws_eqIntS.f k l0_3 l1_3).bind fun t184 => (if t184 = true then (some true) else (some false))) else (some false))) else (some false)) else (some false)) = some r:=h
 clear h
 by_cases c3:a0_0 = a1_0
 ·rw [if_pos c3] at H
  have c3b0:(a0_0 == a1_0) = true:=beq_iff_eq.mpr c3
  have c3b1:(a0_0 != a1_0) = false:=bne_eq_false_iff_eq.mpr c3
  clear c3
  by_cases c4:a0_1 = a1_1
  ·rw [if_pos c4] at H
   have c4b0:(a0_1 == a1_1) = true:=beq_iff_eq.mpr c4
   have c4b1:(a0_1 != a1_1) = false:=bne_eq_false_iff_eq.mpr c4
   clear c4
   replace H:=bi_ H
   obtain ⟨t183,A50,H⟩:=H
   replace H:(if t183 = true then ((laws_eqIntS.f k l0_3 l1_3).bind fun t184 => (if t184 = true then (some true) else (some false))) else (some false)) = some r:=H
   have A5:=am_ A50
   clear A50
   by_cases c6:t183 = true
   ·subst c6
    have H1:((laws_eqIntS.f k l0_3 l1_3).bind fun t184 => (if t184 = true then (some true) else (some false))) = some r:=by rw [if_pos rfl] at H; exact H
    clear H
    have H:=H1
    clear H1
    replace H:=bi_ H
    obtain ⟨t184,A70,H⟩:=H
    replace H:(if t184 = true then (some true) else (some false)) = some r:=H
    have A7:=am_ A70
    clear A70
    by_cases c8:t184 = true
    ·subst c8
     have H1:(some true) = some r:=by rw [if_pos rfl] at H; exact H
     clear H
     have H:=H1
     clear H1
     obtain rfl:=Option.some.inj H
     go_enter Tryd.func23,Tryd.ntmps23
     go_wp2_with (first | ((with_reducible refine gate_dst (N:=2) rfl ?_); refine boxE_ (N:=2) (cs:=#[.int .i64 a0_0,.int .i64 a0_1,.slice A0_2 l0_2.length c0_2,.slice A0_3 l0_3.length c0_3]) (t:=36) ?_; intro gb181 hg w9 hbox hb; have n0_:=am_ (below_step (bl0_ HB.out) hb); have n1_:=am_ (hbox); have n2_:=am_ ((bs0_ hg HB.out:w.heap.size ≤ gb181)); have n3_:=am_ ((bs0_ hg HB.out:w.heap.size ≤ gb181)); clear HB; have HB:=n0_; have BK181:=n1_; have GW181:=n2_; have GE181:=n3_; clear n0_ n1_ n2_ n3_; clear hb hbox hg) | ((with_reducible refine gate_dst (N:=3) rfl ?_); refine boxE_ (N:=3) (cs:=#[.int .i64 a1_0,.int .i64 a1_1,.slice A1_2 l1_2.length c1_2,.slice A1_3 l1_3.length c1_3]) (t:=36) ?_; intro gb182 hg w10 hbox hb; have n0_:=am_ (bb_ BK181.out hb); have n1_:=am_ (below_step (bl1_ HB.out GE181.out) hb); have n2_:=am_ (hbox); have n3_:=am_ ((bs1_ hg HB.out GE181.out:w.heap.size ≤ gb182)); have n4_:=am_ ((bs1_ hg HB.out GE181.out:w.heap.size ≤ gb182)); have n5_:=am_ ((nl_ hg BK181.out:gb181 ≠ gb182)); have n6_:=am_ ((ng_ hg BK181.out:gb182 ≠ gb181)); clear BK181; clear HB; have BK181:=n0_; have HB:=n1_; have BK182:=n2_; have GW182:=n3_; have GE182:=n4_; have NB181_182:=n5_; have NB182_181:=n6_; clear n0_ n1_ n2_ n3_ n4_ n5_ n6_; clear hb hbox hg; have hnb11:=NB181_182.out; have hnc11:=NB182_181.out; have hcz12_0:w10.cell? ⟨gb181,0,none⟩ = some (.int .i64 a0_0):=(bc_ BK181.out 0).trans rfl; have hcz12_1:w10.cell? ⟨gb181,1,none⟩ = some (.int .i64 a0_1):=(bc_ BK181.out 1).trans rfl; have hcz12_2:w10.cell? ⟨gb181,2,none⟩ = some (.slice A0_2 l0_2.length c0_2):=(bc_ BK181.out 2).trans rfl; have hcz12_3:w10.cell? ⟨gb181,3,none⟩ = some (.slice A0_3 l0_3.length c0_3):=(bc_ BK181.out 3).trans rfl; have hfz12_0:=bz_ BK181.out 0; have hfz12_1:=bz_ BK181.out 1; have hfz12_2:=bz_ BK181.out 2; have hfz12_3:=bz_ BK181.out 3; have hcz13_0:w10.cell? ⟨gb182,0,none⟩ = some (.int .i64 a1_0):=(bc_ BK182.out 0).trans rfl; have hcz13_1:w10.cell? ⟨gb182,1,none⟩ = some (.int .i64 a1_1):=(bc_ BK182.out 1).trans rfl; have hcz13_2:w10.cell? ⟨gb182,2,none⟩ = some (.slice A1_2 l1_2.length c1_2):=(bc_ BK182.out 2).trans rfl; have hcz13_3:w10.cell? ⟨gb182,3,none⟩ = some (.slice A1_3 l1_3.length c1_3):=(bc_ BK182.out 3).trans rfl; have hfz13_0:=bz_ BK182.out 0; have hfz13_1:=bz_ BK182.out 1; have hfz13_2:=bz_ BK182.out 2; have hfz13_3:=bz_ BK182.out 3) | ((with_reducible refine gate_callee (f:=58) rfl ?_); refine goesL_ (some 19) rfl rfl Tryd.func58 (by kernel_rfl) rfl #[.slice A0_2 l0_2.length c0_2,.slice A1_2 l1_2.length c1_2] rfl ob_ ?_; (with_reducible refine (laws_eqIntS.calls k _ _ l0_2 _ _ l1_2 true _ ?side1 ?side2 ?side3 ?side4 A5.out).mono ?_); (case side1 => exact kc_ (Kd.C_below HR0_2.out HB.out)); (case side2 => exact HC0_2.out); (case side3 => exact kc_ (Kd.C_below HR1_2.out HB.out)); (case side4 => exact HC1_2.out); rintro e w' ⟨rfl,⟨nd,rfl⟩⟩; refine ⟨_,rfl,?_⟩) | ((with_reducible refine gate_callee (f:=58) rfl ?_); refine goesL_ (some 25) rfl rfl Tryd.func58 (by kernel_rfl) rfl #[.slice A0_3 l0_3.length c0_3,.slice A1_3 l1_3.length c1_3] rfl ob_ ?_; (with_reducible refine (laws_eqIntS.calls k _ _ l0_3 _ _ l1_3 true _ ?side1 ?side2 ?side3 ?side4 A7.out).mono ?_); (case side1 => repeat (first | exact (Kd.C_below HR0_3.out (bl2_ HB.out GE181.out GE182.out)) | (with_reducible refine Kd.C_alloc ?_ _) | (with_reducible refine Kd.C_drewN ?_ _) | (with_reducible refine Kd.C_drew ?_))); (case side2 => exact HC0_3.out); (case side3 => repeat (first | exact (Kd.C_below HR1_3.out (bl2_ HB.out GE181.out GE182.out)) | (with_reducible refine Kd.C_alloc ?_ _) | (with_reducible refine Kd.C_drewN ?_ _) | (with_reducible refine Kd.C_drew ?_))); (case side4 => exact HC1_3.out); rintro e w' ⟨rfl,⟨nd,rfl⟩⟩; refine ⟨_,rfl,?_⟩))
     go_ret
     exact ⟨er_,bl2_ HB.out GE181.out GE182.out⟩
    ·replace c8:=Bool.eq_false_iff.mpr c8
     subst c8
     have H1:(some false) = some r:=by rw [if_neg (show ¬ (false = true) by decide)] at H; exact H
     clear H
     have H:=H1
     clear H1
     obtain rfl:=Option.some.inj H
     go_enter Tryd.func23,Tryd.ntmps23
     go_wp2_with (first | ((with_reducible refine gate_dst (N:=2) rfl ?_); refine boxE_ (N:=2) (cs:=#[.int .i64 a0_0,.int .i64 a0_1,.slice A0_2 l0_2.length c0_2,.slice A0_3 l0_3.length c0_3]) (t:=36) ?_; intro gb181 hg w14 hbox hb; have n0_:=am_ (below_step (bl0_ HB.out) hb); have n1_:=am_ (hbox); have n2_:=am_ ((bs0_ hg HB.out:w.heap.size ≤ gb181)); have n3_:=am_ ((bs0_ hg HB.out:w.heap.size ≤ gb181)); clear HB; have HB:=n0_; have BK181:=n1_; have GW181:=n2_; have GE181:=n3_; clear n0_ n1_ n2_ n3_; clear hb hbox hg) | ((with_reducible refine gate_dst (N:=3) rfl ?_); refine boxE_ (N:=3) (cs:=#[.int .i64 a1_0,.int .i64 a1_1,.slice A1_2 l1_2.length c1_2,.slice A1_3 l1_3.length c1_3]) (t:=36) ?_; intro gb182 hg w15 hbox hb; have n0_:=am_ (bb_ BK181.out hb); have n1_:=am_ (below_step (bl1_ HB.out GE181.out) hb); have n2_:=am_ (hbox); have n3_:=am_ ((bs1_ hg HB.out GE181.out:w.heap.size ≤ gb182)); have n4_:=am_ ((bs1_ hg HB.out GE181.out:w.heap.size ≤ gb182)); have n5_:=am_ ((nl_ hg BK181.out:gb181 ≠ gb182)); have n6_:=am_ ((ng_ hg BK181.out:gb182 ≠ gb181)); clear BK181; clear HB; have BK181:=n0_; have HB:=n1_; have BK182:=n2_; have GW182:=n3_; have GE182:=n4_; have NB181_182:=n5_; have NB182_181:=n6_; clear n0_ n1_ n2_ n3_ n4_ n5_ n6_; clear hb hbox hg; have hnb16:=NB181_182.out; have hnc16:=NB182_181.out; have hcz17_0:w15.cell? ⟨gb181,0,none⟩ = some (.int .i64 a0_0):=(bc_ BK181.out 0).trans rfl; have hcz17_1:w15.cell? ⟨gb181,1,none⟩ = some (.int .i64 a0_1):=(bc_ BK181.out 1).trans rfl; have hcz17_2:w15.cell? ⟨gb181,2,none⟩ = some (.slice A0_2 l0_2.length c0_2):=(bc_ BK181.out 2).trans rfl; have hcz17_3:w15.cell? ⟨gb181,3,none⟩ = some (.slice A0_3 l0_3.length c0_3):=(bc_ BK181.out 3).trans rfl; have hfz17_0:=bz_ BK181.out 0; have hfz17_1:=bz_ BK181.out 1; have hfz17_2:=bz_ BK181.out 2; have hfz17_3:=bz_ BK181.out 3; have hcz18_0:w15.cell? ⟨gb182,0,none⟩ = some (.int .i64 a1_0):=(bc_ BK182.out 0).trans rfl; have hcz18_1:w15.cell? ⟨gb182,1,none⟩ = some (.int .i64 a1_1):=(bc_ BK182.out 1).trans rfl; have hcz18_2:w15.cell? ⟨gb182,2,none⟩ = some (.slice A1_2 l1_2.length c1_2):=(bc_ BK182.out 2).trans rfl; have hcz18_3:w15.cell? ⟨gb182,3,none⟩ = some (.slice A1_3 l1_3.length c1_3):=(bc_ BK182.out 3).trans rfl; have hfz18_0:=bz_ BK182.out 0; have hfz18_1:=bz_ BK182.out 1; have hfz18_2:=bz_ BK182.out 2; have hfz18_3:=bz_ BK182.out 3) | ((with_reducible refine gate_callee (f:=58) rfl ?_); refine goesL_ (some 19) rfl rfl Tryd.func58 (by kernel_rfl) rfl #[.slice A0_2 l0_2.length c0_2,.slice A1_2 l1_2.length c1_2] rfl ob_ ?_; (with_reducible refine (laws_eqIntS.calls k _ _ l0_2 _ _ l1_2 true _ ?side1 ?side2 ?side3 ?side4 A5.out).mono ?_); (case side1 => exact kc_ (Kd.C_below HR0_2.out HB.out)); (case side2 => exact HC0_2.out); (case side3 => exact kc_ (Kd.C_below HR1_2.out HB.out)); (case side4 => exact HC1_2.out); rintro e w' ⟨rfl,⟨nd,rfl⟩⟩; refine ⟨_,rfl,?_⟩) | ((with_reducible refine gate_callee (f:=58) rfl ?_); refine goesL_ (some 25) rfl rfl Tryd.func58 (by kernel_rfl) rfl #[.slice A0_3 l0_3.length c0_3,.slice A1_3 l1_3.length c1_3] rfl ob_ ?_; (with_reducible refine (laws_eqIntS.calls k _ _ l0_3 _ _ l1_3 false _ ?side1 ?side2 ?side3 ?side4 A7.out).mono ?_); (case side1 => repeat (first | exact (Kd.C_below HR0_3.out (bl2_ HB.out GE181.out GE182.out)) | (with_reducible refine Kd.C_alloc ?_ _) | (with_reducible refine Kd.C_drewN ?_ _) | (with_reducible refine Kd.C_drew ?_))); (case side2 => exact HC0_3.out); (case side3 => repeat (first | exact (Kd.C_below HR1_3.out (bl2_ HB.out GE181.out GE182.out)) | (with_reducible refine Kd.C_alloc ?_ _) | (with_reducible refine Kd.C_drewN ?_ _) | (with_reducible refine Kd.C_drew ?_))); (case side4 => exact HC1_3.out); rintro e w' ⟨rfl,⟨nd,rfl⟩⟩; refine ⟨_,rfl,?_⟩))
     go_ret
     exact ⟨er_,bl2_ HB.out GE181.out GE182.out⟩
   ·replace c6:=Bool.eq_false_iff.mpr c6
    subst c6
    have H1:(some false) = some r:=by rw [if_neg (show ¬ (false = true) by decide)] at H; exact H
    clear H
    have H:=H1
    clear H1
    obtain rfl:=Option.some.inj H
    go_enter Tryd.func23,Tryd.ntmps23
    go_wp2_with (first | ((with_reducible refine gate_dst (N:=2) rfl ?_); refine boxE_ (N:=2) (cs:=#[.int .i64 a0_0,.int .i64 a0_1,.slice A0_2 l0_2.length c0_2,.slice A0_3 l0_3.length c0_3]) (t:=36) ?_; intro gb181 hg w19 hbox hb; have n0_:=am_ (below_step (bl0_ HB.out) hb); have n1_:=am_ (hbox); have n2_:=am_ ((bs0_ hg HB.out:w.heap.size ≤ gb181)); have n3_:=am_ ((bs0_ hg HB.out:w.heap.size ≤ gb181)); clear HB; have HB:=n0_; have BK181:=n1_; have GW181:=n2_; have GE181:=n3_; clear n0_ n1_ n2_ n3_; clear hb hbox hg) | ((with_reducible refine gate_dst (N:=3) rfl ?_); refine boxE_ (N:=3) (cs:=#[.int .i64 a1_0,.int .i64 a1_1,.slice A1_2 l1_2.length c1_2,.slice A1_3 l1_3.length c1_3]) (t:=36) ?_; intro gb182 hg w20 hbox hb; have n0_:=am_ (bb_ BK181.out hb); have n1_:=am_ (below_step (bl1_ HB.out GE181.out) hb); have n2_:=am_ (hbox); have n3_:=am_ ((bs1_ hg HB.out GE181.out:w.heap.size ≤ gb182)); have n4_:=am_ ((bs1_ hg HB.out GE181.out:w.heap.size ≤ gb182)); have n5_:=am_ ((nl_ hg BK181.out:gb181 ≠ gb182)); have n6_:=am_ ((ng_ hg BK181.out:gb182 ≠ gb181)); clear BK181; clear HB; have BK181:=n0_; have HB:=n1_; have BK182:=n2_; have GW182:=n3_; have GE182:=n4_; have NB181_182:=n5_; have NB182_181:=n6_; clear n0_ n1_ n2_ n3_ n4_ n5_ n6_; clear hb hbox hg; have hnb21:=NB181_182.out; have hnc21:=NB182_181.out; have hcz22_0:w20.cell? ⟨gb181,0,none⟩ = some (.int .i64 a0_0):=(bc_ BK181.out 0).trans rfl; have hcz22_1:w20.cell? ⟨gb181,1,none⟩ = some (.int .i64 a0_1):=(bc_ BK181.out 1).trans rfl; have hcz22_2:w20.cell? ⟨gb181,2,none⟩ = some (.slice A0_2 l0_2.length c0_2):=(bc_ BK181.out 2).trans rfl; have hcz22_3:w20.cell? ⟨gb181,3,none⟩ = some (.slice A0_3 l0_3.length c0_3):=(bc_ BK181.out 3).trans rfl; have hfz22_0:=bz_ BK181.out 0; have hfz22_1:=bz_ BK181.out 1; have hfz22_2:=bz_ BK181.out 2; have hfz22_3:=bz_ BK181.out 3; have hcz23_0:w20.cell? ⟨gb182,0,none⟩ = some (.int .i64 a1_0):=(bc_ BK182.out 0).trans rfl; have hcz23_1:w20.cell? ⟨gb182,1,none⟩ = some (.int .i64 a1_1):=(bc_ BK182.out 1).trans rfl; have hcz23_2:w20.cell? ⟨gb182,2,none⟩ = some (.slice A1_2 l1_2.length c1_2):=(bc_ BK182.out 2).trans rfl; have hcz23_3:w20.cell? ⟨gb182,3,none⟩ = some (.slice A1_3 l1_3.length c1_3):=(bc_ BK182.out 3).trans rfl; have hfz23_0:=bz_ BK182.out 0; have hfz23_1:=bz_ BK182.out 1; have hfz23_2:=bz_ BK182.out 2; have hfz23_3:=bz_ BK182.out 3) | ((with_reducible refine gate_callee (f:=58) rfl ?_); refine goesL_ (some 19) rfl rfl Tryd.func58 (by kernel_rfl) rfl #[.slice A0_2 l0_2.length c0_2,.slice A1_2 l1_2.length c1_2] rfl ob_ ?_; (with_reducible refine (laws_eqIntS.calls k _ _ l0_2 _ _ l1_2 false _ ?side1 ?side2 ?side3 ?side4 A5.out).mono ?_); (case side1 => exact kc_ (Kd.C_below HR0_2.out HB.out)); (case side2 => exact HC0_2.out); (case side3 => exact kc_ (Kd.C_below HR1_2.out HB.out)); (case side4 => exact HC1_2.out); rintro e w' ⟨rfl,⟨nd,rfl⟩⟩; refine ⟨_,rfl,?_⟩))
    go_ret
    exact ⟨er_,bl2_ HB.out GE181.out GE182.out⟩
  ·rw [if_neg c4] at H
   have c4b0:(a0_1 == a1_1) = false:=beq_eq_false_iff_ne.mpr c4
   have c4b1:(a0_1 != a1_1) = true:=bne_iff_ne.mpr c4
   obtain rfl:=Option.some.inj H
   go_enter Tryd.func23,Tryd.ntmps23
   go_wp2_with (first | ((with_reducible refine gate_dst (N:=2) rfl ?_); refine boxE_ (N:=2) (cs:=#[.int .i64 a0_0,.int .i64 a0_1,.slice A0_2 l0_2.length c0_2,.slice A0_3 l0_3.length c0_3]) (t:=36) ?_; intro gb181 hg w24 hbox hb; have n0_:=am_ (below_step (bl0_ HB.out) hb); have n1_:=am_ (hbox); have n2_:=am_ ((bs0_ hg HB.out:w.heap.size ≤ gb181)); have n3_:=am_ ((bs0_ hg HB.out:w.heap.size ≤ gb181)); clear HB; have HB:=n0_; have BK181:=n1_; have GW181:=n2_; have GE181:=n3_; clear n0_ n1_ n2_ n3_; clear hb hbox hg) | ((with_reducible refine gate_dst (N:=3) rfl ?_); refine boxE_ (N:=3) (cs:=#[.int .i64 a1_0,.int .i64 a1_1,.slice A1_2 l1_2.length c1_2,.slice A1_3 l1_3.length c1_3]) (t:=36) ?_; intro gb182 hg w25 hbox hb; have n0_:=am_ (bb_ BK181.out hb); have n1_:=am_ (below_step (bl1_ HB.out GE181.out) hb); have n2_:=am_ (hbox); have n3_:=am_ ((bs1_ hg HB.out GE181.out:w.heap.size ≤ gb182)); have n4_:=am_ ((bs1_ hg HB.out GE181.out:w.heap.size ≤ gb182)); have n5_:=am_ ((nl_ hg BK181.out:gb181 ≠ gb182)); have n6_:=am_ ((ng_ hg BK181.out:gb182 ≠ gb181)); clear BK181; clear HB; have BK181:=n0_; have HB:=n1_; have BK182:=n2_; have GW182:=n3_; have GE182:=n4_; have NB181_182:=n5_; have NB182_181:=n6_; clear n0_ n1_ n2_ n3_ n4_ n5_ n6_; clear hb hbox hg; have hnb26:=NB181_182.out; have hnc26:=NB182_181.out; have hcz27_0:w25.cell? ⟨gb181,0,none⟩ = some (.int .i64 a0_0):=(bc_ BK181.out 0).trans rfl; have hcz27_1:w25.cell? ⟨gb181,1,none⟩ = some (.int .i64 a0_1):=(bc_ BK181.out 1).trans rfl; have hcz27_2:w25.cell? ⟨gb181,2,none⟩ = some (.slice A0_2 l0_2.length c0_2):=(bc_ BK181.out 2).trans rfl; have hcz27_3:w25.cell? ⟨gb181,3,none⟩ = some (.slice A0_3 l0_3.length c0_3):=(bc_ BK181.out 3).trans rfl; have hfz27_0:=bz_ BK181.out 0; have hfz27_1:=bz_ BK181.out 1; have hfz27_2:=bz_ BK181.out 2; have hfz27_3:=bz_ BK181.out 3; have hcz28_0:w25.cell? ⟨gb182,0,none⟩ = some (.int .i64 a1_0):=(bc_ BK182.out 0).trans rfl; have hcz28_1:w25.cell? ⟨gb182,1,none⟩ = some (.int .i64 a1_1):=(bc_ BK182.out 1).trans rfl; have hcz28_2:w25.cell? ⟨gb182,2,none⟩ = some (.slice A1_2 l1_2.length c1_2):=(bc_ BK182.out 2).trans rfl; have hcz28_3:w25.cell? ⟨gb182,3,none⟩ = some (.slice A1_3 l1_3.length c1_3):=(bc_ BK182.out 3).trans rfl; have hfz28_0:=bz_ BK182.out 0; have hfz28_1:=bz_ BK182.out 1; have hfz28_2:=bz_ BK182.out 2; have hfz28_3:=bz_ BK182.out 3))
   go_ret
   exact ⟨er_,bl2_ HB.out GE181.out GE182.out⟩
 ·rw [if_neg c3] at H
  have c3b0:(a0_0 == a1_0) = false:=beq_eq_false_iff_ne.mpr c3
  have c3b1:(a0_0 != a1_0) = true:=bne_iff_ne.mpr c3
  obtain rfl:=Option.some.inj H
  go_enter Tryd.func23,Tryd.ntmps23
  go_wp2_with (first | ((with_reducible refine gate_dst (N:=2) rfl ?_); refine boxE_ (N:=2) (cs:=#[.int .i64 a0_0,.int .i64 a0_1,.slice A0_2 l0_2.length c0_2,.slice A0_3 l0_3.length c0_3]) (t:=36) ?_; intro gb181 hg w29 hbox hb; have n0_:=am_ (below_step (bl0_ HB.out) hb); have n1_:=am_ (hbox); have n2_:=am_ ((bs0_ hg HB.out:w.heap.size ≤ gb181)); have n3_:=am_ ((bs0_ hg HB.out:w.heap.size ≤ gb181)); clear HB; have HB:=n0_; have BK181:=n1_; have GW181:=n2_; have GE181:=n3_; clear n0_ n1_ n2_ n3_; clear hb hbox hg) | ((with_reducible refine gate_dst (N:=3) rfl ?_); refine boxE_ (N:=3) (cs:=#[.int .i64 a1_0,.int .i64 a1_1,.slice A1_2 l1_2.length c1_2,.slice A1_3 l1_3.length c1_3]) (t:=36) ?_; intro gb182 hg w30 hbox hb; have n0_:=am_ (bb_ BK181.out hb); have n1_:=am_ (below_step (bl1_ HB.out GE181.out) hb); have n2_:=am_ (hbox); have n3_:=am_ ((bs1_ hg HB.out GE181.out:w.heap.size ≤ gb182)); have n4_:=am_ ((bs1_ hg HB.out GE181.out:w.heap.size ≤ gb182)); have n5_:=am_ ((nl_ hg BK181.out:gb181 ≠ gb182)); have n6_:=am_ ((ng_ hg BK181.out:gb182 ≠ gb181)); clear BK181; clear HB; have BK181:=n0_; have HB:=n1_; have BK182:=n2_; have GW182:=n3_; have GE182:=n4_; have NB181_182:=n5_; have NB182_181:=n6_; clear n0_ n1_ n2_ n3_ n4_ n5_ n6_; clear hb hbox hg; have hnb31:=NB181_182.out; have hnc31:=NB182_181.out; have hcz32_0:w30.cell? ⟨gb181,0,none⟩ = some (.int .i64 a0_0):=(bc_ BK181.out 0).trans rfl; have hcz32_1:w30.cell? ⟨gb181,1,none⟩ = some (.int .i64 a0_1):=(bc_ BK181.out 1).trans rfl; have hcz32_2:w30.cell? ⟨gb181,2,none⟩ = some (.slice A0_2 l0_2.length c0_2):=(bc_ BK181.out 2).trans rfl; have hcz32_3:w30.cell? ⟨gb181,3,none⟩ = some (.slice A0_3 l0_3.length c0_3):=(bc_ BK181.out 3).trans rfl; have hfz32_0:=bz_ BK181.out 0; have hfz32_1:=bz_ BK181.out 1; have hfz32_2:=bz_ BK181.out 2; have hfz32_3:=bz_ BK181.out 3; have hcz33_0:w30.cell? ⟨gb182,0,none⟩ = some (.int .i64 a1_0):=(bc_ BK182.out 0).trans rfl; have hcz33_1:w30.cell? ⟨gb182,1,none⟩ = some (.int .i64 a1_1):=(bc_ BK182.out 1).trans rfl; have hcz33_2:w30.cell? ⟨gb182,2,none⟩ = some (.slice A1_2 l1_2.length c1_2):=(bc_ BK182.out 2).trans rfl; have hcz33_3:w30.cell? ⟨gb182,3,none⟩ = some (.slice A1_3 l1_3.length c1_3):=(bc_ BK182.out 3).trans rfl; have hfz33_0:=bz_ BK182.out 0; have hfz33_1:=bz_ BK182.out 1; have hfz33_2:=bz_ BK182.out 2; have hfz33_3:=bz_ BK182.out 3))
  go_ret
  exact ⟨er_,bl2_ HB.out GE181.out GE182.out⟩


def laws_markIntS.l0:Nat → List Int → Int → Int → Option (Int × List Int)
  | 0,_,_,_ => none
  | k + 1,x0,x1,x5 => if x5 < (x0.length:Int) then (if 0 ≤ x5 then (laws_markIntS.l0 k (x0.set (x5:Int).toNat x1) (wrap64 (x1 + 1)) (wrap64 (x5 + 1))) else (none)) else (some (x1,x0))
def laws_markIntS.f (k:Nat) (l0:List Int) (a1:Int):Option (Int × List Int):=laws_markIntS.l0 k l0 a1 0
theorem laws_markIntS.mono_l:∀ k,(∀ y0 y1 y2,LeO (laws_markIntS.l0 k y0 y1 y2) (laws_markIntS.l0 (k + 1) y0 y1 y2))
  | 0 => fun _ _ _ r h => by simp [laws_markIntS.l0] at h
  | k + 1 => by
    have ih0:=laws_markIntS.mono_l k
    · intro y0 y1 y2
      unfold laws_markIntS.l0
      repeat' first | (with_reducible first | exact ih0 _ _ _ | exact LeO.refl _ | exact LeO.none _ | refine LeO.ite ?_ ?_ | refine LeO.bind ?_ (fun _ => ?_)) | exact ih0 _ _ _
theorem laws_markIntS.mono:∀ a0 a1 k,LeO (laws_markIntS.f k a0 a1) (laws_markIntS.f (k + 1) a0 a1):=by
  intro a0 a1 k
  have ih0:=laws_markIntS.mono_l k
  unfold laws_markIntS.f
  repeat' first | (with_reducible first | exact ih0 _ _ _ | exact LeO.refl _ | exact LeO.none _ | refine LeO.ite ?_ ?_ | refine LeO.bind ?_ (fun _ => ?_)) | exact ih0 _ _ _
set_option maxHeartbeats 8000000 in
set_option maxRecDepth 100000 in
theorem laws_markIntS.calls (k:Nat) (P0_:Nat → Prop) (u9000_:Value) (l0:List Int) (a1:Int) (r1:Int) (r2:List Int) (w0 w:World) (hB:Below w0.heap.size w0 w) (ho0:Kd.R (Kd.int .i64) 3 w w0.heap.size P0_ u9000_ l0) (h:laws_markIntS.f k l0 a1 = some (r1,r2)) :
    Calls Tryd.prog 59 #[u9000_,.int .i64 a1] w fun e w' => e = .returned (.int .i64 r1) ∧ Kd.R (Kd.int .i64) 3 w' w0.heap.size (fun k_ => (P0_ k_ ∨ w.heap.size ≤ k_)) u9000_ r2 ∧ Below w0.heap.size w0 w' ∧ Kept w w' (fun k_ => P0_ k_):=by
  have HO0:=am_ (show Kd.R (Kd.int .i64) 3 w w0.heap.size (fun k_ => (P0_ k_ ∨ w.heap.size ≤ k_)) u9000_ l0 from Kd.R_mono ho0 (fun k_ hk => (.inl hk)))
  have HK:=am_ (Kept.refl w (fun k_ => P0_ k_))
  have HW0:=am_ hB.size
  have HB:=am_ hB
  clear hB
  have H:(laws_markIntS.l0 k l0 a1 0) = some (r1,r2):=h
  clear h
  have H':=am_ H
  clear H
  go_enter Tryd.func59,Tryd.ntmps59
  go_wp2
  go_loopg [1,5] k (fun kq v1 v5 w' => ∃ (x0_1:List Int) (x1_1:Int) (x5_1:Int),v1 = .int .i64 x1_1 ∧ v5 = .int .i64 x5_1 ∧ Aside0 (laws_markIntS.l0 kq x0_1 x1_1 x5_1 = some (r1,r2)) ∧ Aside0 (kq ≤ k) ∧ Aside0 (Kd.R (Kd.int .i64) 3 w' w0.heap.size (fun k_ => (P0_ k_ ∨ w.heap.size ≤ k_)) u9000_ x0_1) ∧ Aside0 (Kept w w' (fun k_ => P0_ k_)) ∧ Aside0 (Below w0.heap.size w0 w'))
  case atStart => exact ⟨(l0),(a1),(0),rs_,rs_,H',⟨Nat.le_refl _⟩,⟨kr_ HO0.out⟩,⟨by repeat (first | (with_reducible first | exact HK.out | apply Kept.alloc | apply Kept.drewN | apply Kept.drew) | exact HK.out)⟩,⟨bl0_ HB.out⟩⟩
  case round =>
    clear H'
    try clear p2
    obtain ⟨x0_1,x1_1,x5_1,rfl,rfl,HA,HK1,HO_0,HK,HB⟩:=hrel
    cases gk with
    | zero => exact absurd HA.out (by simp [laws_markIntS.l0])
    | succ k1 =>
      have H:=HA.out
      clear HA
      simp only [laws_markIntS.l0] at H
      by_cases c3:x5_1 < (x0_1.length:Int)
      · rw [if_pos c3] at H
        have c3b0:decide (x5_1 < (x0_1.length:Int)) = true:=decide_eq_true c3
        clear c3
        by_cases c4:0 ≤ x5_1
        · rw [if_pos c4] at H
          have c4b0:decide (0 ≤ x5_1) = true:=decide_eq_true c4
          clear c4
          obtain ⟨y185,hy185⟩:∃ y_:List Int,y_ = (x0_1.set (x5_1:Int).toNat x1_1):=⟨_,rfl⟩
          replace H:(laws_markIntS.l0 k1 y185 (wrap64 (x1_1 + 1)) (wrap64 (x5_1 + 1))) = some (r1,r2):=by first | (rw [hy185]; with_reducible exact H) | (have H2_:=(Option.bind_some _ _).symm.trans H; rw [hy185]; with_reducible exact H2_) | (have H2_:=(Option.bind_some _ _).symm.trans H; with_reducible exact H2_) | with_reducible exact H | (rw [hy185]; exact H) | exact H
          have Ny185:=am_ hy185
          clear hy185
          have H':=am_ H
          clear H
          obtain ⟨Ao6,co6,eo6⟩:=Kd.R_slice HO_0.out
          subst eo6
          have p5:0 ≤ (x5_1:Int):=of_decide_eq_true as_
          have q5:(x5_1:Int) < ((x0_1.length:Int):Int):=of_decide_eq_true as_
          obtain ⟨go5,co5,eo5,gb5,gl5,cl5,HG5⟩:=Kd.R_form HO_0.out (by omega)
          (first | cases eo5 | (injection eo5 with ea_ en_ ec_; (first | subst ea_ | (injection ea_ with ea_; subst ea_)); subst ec_; clear en_))
          have GB5:=am_ gb5
          have GG5:=am_ HG5
          clear gb5 gl5 HG5
          have HMgo5:=am_ (show (P0_ go5 ∨ w.heap.size ≤ go5) from (HO_0.out.1 _ rfl))
          obtain ⟨hx5_0,hf5_0⟩:=Kd.R_celln 0 HO_0.out (x5_1:Int) p5 q5
          replace p5:=eq_true p5
          replace q5:=eq_true q5
          have HP7:=Kd.R_putg HO_0.out (x5_1:Int) x1_1
          go_wp2_with (first | ((with_reducible refine gate_store (t:=3) (p:=15) rfl ?_); refine store_event (t:=3) (p:=15) (v:=?vo_w8) (w1:=(wr.setCell ⟨go5,(x5_1:Int).toNat,none⟩ (.int .i64 x1_1))) ?hg ?ho ?hn ?hr ?_; (case ho => rfl); (case hg => rfl); (case hn => rfl); (case hr => first | (go_simp; done) | (go_simp; rfl)); intro w8 hw; have hg:wr.grownBy w8 (some go5):=(by rw [hw]; exact HP7.2); have hp_:Kd.R (Kd.int .i64) 3 w8 w0.heap.size (fun k_ => (P0_ k_ ∨ w.heap.size ≤ k_)) (.slice (some ⟨go5,0,none⟩) x0_1.length co6) y185:=(by rw [hw,Ny185.out]; exact HP7.1); clear HP7; have n0_:=am_ (hp_); have n1_:=am_ ((by rw [hw]; exact below_set (HB.out) GB5.out:Below w0.heap.size w0 w8)); have n2_:=am_ (Kept.of_grown (S:=(fun k_ => P0_ k_)) hg (by repeat (first | (with_reducible first | exact HK.out | apply Kept.alloc | apply Kept.drewN | apply Kept.drew) | exact HK.out)) (fun k_ e_ => (HO_0.out.1 k_ e_))); clear HO_0; clear HB; clear HK; have HO_0:=n0_; have HB:=n1_; have HK:=n2_; clear n0_ n1_ n2_; clear hg hw hp_))
          go_roundg k1
          case measure => have:=HK1.out; omega
          case rel => exact ⟨(y185),(wrap64 (x1_1 + 1)),(wrap64 (x5_1 + 1)),rs_,rs_,H',⟨by have:=HK1.out; omega⟩,⟨kr_ HO_0.out⟩,⟨by repeat (first | (with_reducible first | exact HK.out | apply Kept.alloc | apply Kept.drewN | apply Kept.drew) | exact HK.out)⟩,⟨bl0_ HB.out⟩⟩
        · rw [if_neg c4] at H
          exact absurd H (by simp)
      · rw [if_neg c3] at H
        have c3b0:decide (x5_1 < (x0_1.length:Int)) = false:=decide_eq_false c3
        clear c3
        simp only [Option.some.injEq,Prod.mk.injEq] at H
        obtain ⟨rfl,rfl⟩:=H
        obtain ⟨Ao9,co9,eo9⟩:=Kd.R_slice HO_0.out
        subst eo9
        go_wp2
        go_ret
        exact ⟨er_,by (with_reducible repeat (first | apply Kd.R_alloc | apply Kd.R_drewN | apply Kd.R_drew)); exact HO_0.out,bl0_ HB.out,by repeat (first | (with_reducible first | exact HK.out | apply Kept.alloc | apply Kept.drewN | apply Kept.drew) | exact HK.out)⟩


def laws_markFigure.f (k:Nat) (a0_0:Int) (a0_1:Int) (l0_2:List Int) (l0_3:List Int) (a1:Int):Option (Int × List Int × List Int):=(laws_markIntS.f k l0_2 a1).bind fun bt187 => ((laws_markIntS.f k l0_3 bt187.1).bind fun bt189 => (some (bt189.1,bt187.2,bt189.2)))
theorem laws_markFigure.mono:∀ a0 a1 a2 a3 a4 k,LeO (laws_markFigure.f k a0 a1 a2 a3 a4) (laws_markFigure.f (k + 1) a0 a1 a2 a3 a4):=by
 intro a0 a1 a2 a3 a4 k
 unfold laws_markFigure.f
 repeat' first | (with_reducible first | exact laws_markIntS.mono _ _ _ | exact LeO.refl _ | exact LeO.none _ | refine LeO.ite ?_ ?_ | refine LeO.bind ?_ (fun _ => ?_)) | exact laws_markIntS.mono _ _ _
set_option maxHeartbeats 8000000 in
set_option maxRecDepth 100000 in
theorem laws_markFigure.calls (k:Nat) (a0_0:Int) (a0_1:Int) (P0_2_:Nat → Prop) (u9000_:Value) (l0_2:List Int) (P0_3_:Nat → Prop) (u9001_:Value) (l0_3:List Int) (a1:Int) (r1:Int) (r2:List Int) (r3:List Int) (w0 w:World) (hB:Below w0.heap.size w0 w) (ho0_2:Kd.R (Kd.int .i64) 3 w w0.heap.size P0_2_ u9000_ l0_2) (hp0_2_0_3:∀ k_,P0_2_ k_ → ¬ P0_3_ k_) (ho0_3:Kd.R (Kd.int .i64) 3 w w0.heap.size P0_3_ u9001_ l0_3) (hp0_3_0_2:∀ k_,P0_3_ k_ → ¬ P0_2_ k_) (h:laws_markFigure.f k a0_0 a0_1 l0_2 l0_3 a1 = some (r1,r2,r3)) :
  Calls Tryd.prog 24 #[.agg #[.int .i64 a0_0,.int .i64 a0_1,u9000_,u9001_],.int .i64 a1] w fun e w' => e = .returned (.int .i64 r1) ∧ Kd.R (Kd.int .i64) 3 w' w0.heap.size (fun k_ => ((P0_2_ k_ ∨ P0_3_ k_) ∨ w.heap.size ≤ k_)) u9000_ r2 ∧ Kd.R (Kd.int .i64) 3 w' w0.heap.size (fun k_ => ((P0_2_ k_ ∨ P0_3_ k_) ∨ w.heap.size ≤ k_)) u9001_ r3 ∧ Below w0.heap.size w0 w' ∧ Kept w w' (fun k_ => P0_2_ k_ ∨ P0_3_ k_):=by
 have hu36:=Tryd.underlying36
 have HO0_2:=am_ (show Kd.R (Kd.int .i64) 3 w w0.heap.size (fun k_ => ((P0_2_ k_ ∨ P0_3_ k_) ∨ w.heap.size ≤ k_) ∧ some k_ ≠ (u9001_:Value).ownBlock) u9000_ l0_2 from Kd.R_mono ho0_2 (fun k_ hk => ⟨(.inl (.inl hk)),fun e_ => hp0_2_0_3 k_ hk (ho0_3.1 k_ e_.symm)⟩))
 have HO0_3:=am_ (show Kd.R (Kd.int .i64) 3 w w0.heap.size (fun k_ => ((P0_2_ k_ ∨ P0_3_ k_) ∨ w.heap.size ≤ k_) ∧ some k_ ≠ (u9000_:Value).ownBlock) u9001_ l0_3 from Kd.R_mono ho0_3 (fun k_ hk => ⟨(.inl (.inr hk)),fun e_ => hp0_3_0_2 k_ hk (ho0_2.1 k_ e_.symm)⟩))
 have HK:=am_ (Kept.refl w (fun k_ => P0_2_ k_ ∨ P0_3_ k_))
 have HW0:=am_ hB.size
 have HB:=am_ hB
 clear hB
 have H:((laws_markIntS.f k l0_2 a1).bind fun bt187 => ((laws_markIntS.f k l0_3 bt187.1).bind fun bt189 => (some (bt189.1,bt187.2,bt189.2)))) = some (r1,r2,r3):=h
 clear h
 replace H:=bi_ H
 obtain ⟨⟨t187,t188⟩,A30,H⟩:=H
 replace H:((laws_markIntS.f k l0_3 t187).bind fun bt189 => (some (bt189.1,t188,bt189.2))) = some (r1,r2,r3):=H
 have A3:=am_ A30
 clear A30
 replace H:=bi_ H
 obtain ⟨⟨t189,t190⟩,A40,H⟩:=H
 replace H:(some (t189,t188,t190)) = some (r1,r2,r3):=H
 have A4:=am_ A40
 clear A40
 simp only [Option.some.injEq,Prod.mk.injEq] at H
 obtain ⟨rfl,rfl,rfl⟩:=H
 obtain ⟨Ao5,co5,eo5⟩:=Kd.R_slice HO0_2.out
 subst eo5
 obtain ⟨Ao6,co6,eo6⟩:=Kd.R_slice HO0_3.out
 subst eo6
 go_enter Tryd.func24,Tryd.ntmps24
 go_wp2_with (first | ((with_reducible refine gate_dst (N:=2) rfl ?_); refine boxE_ (N:=2) (cs:=#[.int .i64 a0_0,.int .i64 a0_1,.slice Ao5 l0_2.length co5,.slice Ao6 l0_3.length co6]) (t:=36) ?_; intro gb186 hg w7 hbox hb; have n0_:=am_ (Kd.R_below (kr_ HO0_2.out) hb); have n1_:=am_ (Kd.R_below (kr_ HO0_3.out) hb); have n2_:=am_ (Kept.below (S:=(fun k_ => P0_2_ k_ ∨ P0_3_ k_)) (by repeat (first | (with_reducible first | exact HK.out | apply Kept.alloc | apply Kept.drewN | apply Kept.drew) | exact HK.out)) hb); have n3_:=am_ (below_step (bl0_ HB.out) hb); have n4_:=am_ (hbox); have n5_:=am_ ((by rw [hg]; exact (by first | exact HK.out.1 | exact (show Kept w _ (fun k_ => P0_2_ k_ ∨ P0_3_ k_) from by repeat (first | (with_reducible first | exact HK.out | apply Kept.alloc | apply Kept.drewN | apply Kept.drew) | exact HK.out)).1):w.heap.size ≤ gb186)); have n6_:=am_ ((bs0_ hg HB.out:w0.heap.size ≤ gb186)); clear HO0_2; clear HO0_3; clear HK; clear HB; have HO0_2:=n0_; have HO0_3:=n1_; have HK:=n2_; have HB:=n3_; have BK186:=n4_; have GW186:=n5_; have GE186:=n6_; clear n0_ n1_ n2_ n3_ n4_ n5_ n6_; clear hb hbox hg; have hcz8_0:w7.cell? ⟨gb186,0,none⟩ = some (.int .i64 a0_0):=(bc_ BK186.out 0).trans rfl; have hcz8_1:w7.cell? ⟨gb186,1,none⟩ = some (.int .i64 a0_1):=(bc_ BK186.out 1).trans rfl; have hcz8_2:w7.cell? ⟨gb186,2,none⟩ = some (.slice Ao5 l0_2.length co5):=(bc_ BK186.out 2).trans rfl; have hcz8_3:w7.cell? ⟨gb186,3,none⟩ = some (.slice Ao6 l0_3.length co6):=(bc_ BK186.out 3).trans rfl; have hfz8_0:=bz_ BK186.out 0; have hfz8_1:=bz_ BK186.out 1; have hfz8_2:=bz_ BK186.out 2; have hfz8_3:=bz_ BK186.out 3) | ((with_reducible refine gate_callee (f:=59) rfl ?_); refine goesL_ (some 8) rfl rfl Tryd.func59 (by kernel_rfl) rfl #[.slice Ao5 l0_2.length co5,.int .i64 a1] rfl ob_ ?_; (with_reducible refine (laws_markIntS.calls k (fun k_ => some k_ = (.slice Ao5 l0_2.length co5:Value).ownBlock) (.slice Ao5 l0_2.length co5) l0_2 a1 t187 t188 w0 _ ?side1 ?side2 A3.out).mono ?_); (case side1 => repeat (first | (with_reducible first | exact HB.out | apply below_alloc | apply pw_below_drewN | apply below_drew1 | refine below_set ?_ GE186.out) | exact HB.out)); (case side2 => exact Kd.R_tight rfl HO0_2.out); rintro e w9 ⟨rfl,hy0,hb,hkp⟩; refine ⟨_,rfl,?_⟩; have n0_:=am_ (Kd.R_reok rfl hy0 (fun k_ e_ => HO0_2.out.1 k_ e_)); have n1_:=am_ (Kd.R_mono (ok':=fun k_ => ((P0_2_ k_ ∨ P0_3_ k_) ∨ w.heap.size ≤ k_) ∧ some k_ ≠ (.slice Ao5 l0_2.length co5:Value).ownBlock) (Kd.R_keptB (HO0_3.out) hkp (fun k_ hk_ hs_ => (hk_.2) hs_)) (fun k_ hk_ => ⟨hk_.1.1,hk_.1.2⟩)); have n2_:=am_ (blk_kept (bk_ BK186.out) hkp (fun hs_ => (fun e_ => (Kd.R_ne HO0_2.out BK186.out (by decide)) e_) hs_)); have n3_:=am_ (Kept.then_ (S:=(fun k_ => P0_2_ k_ ∨ P0_3_ k_)) (by repeat (first | (with_reducible first | exact HK.out | apply Kept.alloc | apply Kept.drewN | apply Kept.drew | refine Kept.setCell ?_ (.inr GW186.out) _) | exact HK.out)) hkp (fun k_ hs_ => (fun e_ => (HO0_2.out.1 k_ e_.symm).1) hs_)); have n4_:=am_ (hb); clear HO0_2; clear HO0_3; clear BK186; clear HK; clear HB; have HO0_2:=n0_; have HO0_3:=n1_; have BK186:=n2_; have HK:=n3_; have HB:=n4_; clear n0_ n1_ n2_ n3_ n4_; (try clear hb); (try clear hkp); (try clear hy0); have hcz10_0:w9.cell? ⟨gb186,0,none⟩ = some (.int .i64 a0_0):=(bc_ BK186.out 0).trans rfl; have hcz10_1:w9.cell? ⟨gb186,1,none⟩ = some (.int .i64 a0_1):=(bc_ BK186.out 1).trans rfl; have hcz10_2:w9.cell? ⟨gb186,2,none⟩ = some (.slice Ao5 l0_2.length co5):=(bc_ BK186.out 2).trans rfl; have hcz10_3:w9.cell? ⟨gb186,3,none⟩ = some (.slice Ao6 l0_3.length co6):=(bc_ BK186.out 3).trans rfl; have hfz10_0:=bz_ BK186.out 0; have hfz10_1:=bz_ BK186.out 1; have hfz10_2:=bz_ BK186.out 2; have hfz10_3:=bz_ BK186.out 3) | ((with_reducible refine gate_callee (f:=59) rfl ?_); refine goesL_ (some 12) rfl rfl Tryd.func59 (by kernel_rfl) rfl #[.slice Ao6 l0_3.length co6,.int .i64 t187] rfl ob_ ?_; (with_reducible refine (laws_markIntS.calls k (fun k_ => some k_ = (.slice Ao6 l0_3.length co6:Value).ownBlock) (.slice Ao6 l0_3.length co6) l0_3 t187 t189 t190 w0 _ ?side1 ?side2 A4.out).mono ?_); (case side1 => repeat (first | (with_reducible first | exact HB.out | apply below_alloc | apply pw_below_drewN | apply below_drew1 | refine below_set ?_ GE186.out) | exact HB.out)); (case side2 => exact Kd.R_tight rfl HO0_3.out); rintro e w11 ⟨rfl,hy0,hb,hkp⟩; refine ⟨_,rfl,?_⟩; have n0_:=am_ (Kd.R_mono (ok':=fun k_ => ((P0_2_ k_ ∨ P0_3_ k_) ∨ w.heap.size ≤ k_) ∧ some k_ ≠ (.slice Ao6 l0_3.length co6:Value).ownBlock) (Kd.R_keptB (HO0_2.out) hkp (fun k_ hk_ hs_ => (hk_.2) hs_)) (fun k_ hk_ => ⟨hk_.1.1,hk_.1.2⟩)); have n1_:=am_ (Kd.R_reok rfl hy0 (fun k_ e_ => HO0_3.out.1 k_ e_)); have n2_:=am_ (blk_kept (bk_ BK186.out) hkp (fun hs_ => (fun e_ => (Kd.R_ne HO0_3.out BK186.out (by decide)) e_) hs_)); have n3_:=am_ (Kept.then_ (S:=(fun k_ => P0_2_ k_ ∨ P0_3_ k_)) (by repeat (first | (with_reducible first | exact HK.out | apply Kept.alloc | apply Kept.drewN | apply Kept.drew | refine Kept.setCell ?_ (.inr GW186.out) _) | exact HK.out)) hkp (fun k_ hs_ => (fun e_ => (HO0_3.out.1 k_ e_.symm).1) hs_)); have n4_:=am_ (hb); clear HO0_2; clear HO0_3; clear BK186; clear HK; clear HB; have HO0_2:=n0_; have HO0_3:=n1_; have BK186:=n2_; have HK:=n3_; have HB:=n4_; clear n0_ n1_ n2_ n3_ n4_; (try clear hb); (try clear hkp); (try clear hy0)))
 go_ret
 exact ⟨er_,by (with_reducible repeat (first | apply Kd.R_alloc | apply Kd.R_drewN | apply Kd.R_drew)); exact Kd.R_mono HO0_2.out (fun _ hk => hk.1),by (with_reducible repeat (first | apply Kd.R_alloc | apply Kd.R_drewN | apply Kd.R_drew)); exact Kd.R_mono HO0_3.out (fun _ hk => hk.1),bl1_ HB.out GE186.out,by repeat (first | (with_reducible first | exact HK.out | apply Kept.alloc | apply Kept.drewN | apply Kept.drew | refine Kept.setCell ?_ (.inr GW186.out) _) | exact HK.out)⟩


def laws_heldIntS.l0:Nat → List Int → Int → Int → Option (Int)
  | 0,_,_,_ => none
  | k + 1,x0,x1,x5 => if x5 < (x0.length:Int) then (if 0 ≤ x5 then (if (rd x0 x5) = x1 then (laws_heldIntS.l0 k x0 (wrap64 (x1 + 1)) (wrap64 (x5 + 1))) else (some (-1))) else (none)) else (some x1)
def laws_heldIntS.f (k:Nat) (l0:List Int) (a1:Int):Option (Int):=laws_heldIntS.l0 k l0 a1 0
theorem laws_heldIntS.mono_l:∀ k,(∀ y0 y1 y2,LeO (laws_heldIntS.l0 k y0 y1 y2) (laws_heldIntS.l0 (k + 1) y0 y1 y2))
  | 0 => fun _ _ _ r h => by simp [laws_heldIntS.l0] at h
  | k + 1 => by
    have ih0:=laws_heldIntS.mono_l k
    · intro y0 y1 y2
      unfold laws_heldIntS.l0
      repeat' first | (with_reducible first | exact ih0 _ _ _ | exact LeO.refl _ | exact LeO.none _ | refine LeO.ite ?_ ?_ | refine LeO.bind ?_ (fun _ => ?_)) | exact ih0 _ _ _
theorem laws_heldIntS.mono:∀ a0 a1 k,LeO (laws_heldIntS.f k a0 a1) (laws_heldIntS.f (k + 1) a0 a1):=by
  intro a0 a1 k
  have ih0:=laws_heldIntS.mono_l k
  unfold laws_heldIntS.f
  repeat' first | (with_reducible first | exact ih0 _ _ _ | exact LeO.refl _ | exact LeO.none _ | refine LeO.ite ?_ ?_ | refine LeO.bind ?_ (fun _ => ?_)) | exact ih0 _ _ _
set_option maxHeartbeats 8000000 in
set_option maxRecDepth 100000 in
theorem laws_heldIntS.calls (k:Nat) (A0:Option Addr) (c0:Nat) (l0:List Int) (a1:Int) (r:Int) (w:World) (hr0:Kd.C (Kd.int .i64) w A0 l0.length l0) (hc0:l0.length ≤ c0) (h:laws_heldIntS.f k l0 a1 = some r) :
    Calls Tryd.prog 60 #[.slice A0 l0.length c0,.int .i64 a1] w fun e w' => e = .returned (.int .i64 r) ∧ Drawn0 w w':=by
  have HR0:=am_ hr0
  have HC0:=am_ hc0
  clear hr0 hc0
  have H:(laws_heldIntS.l0 k l0 a1 0) = some r:=h
  clear h
  have H':=am_ H
  clear H
  go_enter Tryd.func60,Tryd.ntmps60
  go_wp2
  go_loopg [1,5] k (fun kq v1 v5 w' => ∃ (x1_1:Int) (x5_1:Int),v1 = .int .i64 x1_1 ∧ v5 = .int .i64 x5_1 ∧ Aside0 (laws_heldIntS.l0 kq l0 x1_1 x5_1 = some r) ∧ Aside0 (kq ≤ k) ∧ Drawn0 w w')
  case atStart => exact ⟨(a1),(0),rs_,rs_,H',⟨Nat.le_refl _⟩,by repeat (first | exact Drawn0.refl _ | apply Drawn0.step)⟩
  case round =>
    clear H'
    try clear p2
    obtain ⟨x1_1,x5_1,rfl,rfl,HA,HK1,⟨m1,rfl⟩⟩:=hrel
    cases gk with
    | zero => exact absurd HA.out (by simp [laws_heldIntS.l0])
    | succ k1 =>
      have H:=HA.out
      clear HA
      simp only [laws_heldIntS.l0] at H
      by_cases c3:x5_1 < (l0.length:Int)
      · rw [if_pos c3] at H
        have c3b0:decide (x5_1 < (l0.length:Int)) = true:=decide_eq_true c3
        clear c3
        by_cases c4:0 ≤ x5_1
        · rw [if_pos c4] at H
          have c4b0:decide (0 ≤ x5_1) = true:=decide_eq_true c4
          clear c4
          by_cases c5:(rd l0 x5_1) = x1_1
          · rw [if_pos c5] at H
            have c5b0:((rd l0 x5_1) == x1_1) = true:=beq_iff_eq.mpr c5
            have c5b1:((rd l0 x5_1) != x1_1) = false:=bne_eq_false_iff_eq.mpr c5
            clear c5
            have H':=am_ H
            clear H
            have p191:0 ≤ (x5_1:Int):=of_decide_eq_true as_
            have q191:x5_1 < (l0.length:Int):=of_decide_eq_true as_
            obtain ⟨ad191,e191,hx191_0⟩:=Kd.at_int HR0.out x5_1 p191 q191
            cases e191
            replace p191:=eq_true p191
            replace q191:=eq_true q191
            go_wp2
            go_roundg k1
            case measure => have:=HK1.out; omega
            case rel => exact ⟨(wrap64 (x1_1 + 1)),(wrap64 (x5_1 + 1)),rs_,rs_,H',⟨by have:=HK1.out; omega⟩,by repeat (first | exact Drawn0.refl _ | apply Drawn0.step)⟩
          · rw [if_neg c5] at H
            have c5b0:((rd l0 x5_1) == x1_1) = false:=beq_eq_false_iff_ne.mpr c5
            have c5b1:((rd l0 x5_1) != x1_1) = true:=bne_iff_ne.mpr c5
            obtain rfl:=Option.some.inj H
            have p191:0 ≤ (x5_1:Int):=of_decide_eq_true as_
            have q191:x5_1 < (l0.length:Int):=of_decide_eq_true as_
            obtain ⟨ad191,e191,hx191_0⟩:=Kd.at_int HR0.out x5_1 p191 q191
            cases e191
            replace p191:=eq_true p191
            replace q191:=eq_true q191
            go_wp2
            go_ret
            exact ⟨by first | rfl | (simp; done) | (simp [*]; done),by repeat (first | exact Drawn0.refl _ | apply Drawn0.step)⟩
        · rw [if_neg c4] at H
          exact absurd H (by simp)
      · rw [if_neg c3] at H
        have c3b0:decide (x5_1 < (l0.length:Int)) = false:=decide_eq_false c3
        clear c3
        obtain rfl:=Option.some.inj H
        go_wp2
        go_ret
        exact ⟨by first | rfl | (simp; done) | (simp [*]; done),by repeat (first | exact Drawn0.refl _ | apply Drawn0.step)⟩


def laws_heldFigure.f (k:Nat) (a0_0:Int) (a0_1:Int) (l0_2:List Int) (l0_3:List Int) (a1:Int):Option (Int):=(laws_heldIntS.f k l0_2 a1).bind fun t193 => (if t193 < 0 then (some (-1)) else ((laws_heldIntS.f k l0_3 t193).bind fun t194 => (if t194 < 0 then (some (-1)) else (some t194))))
theorem laws_heldFigure.mono:∀ a0 a1 a2 a3 a4 k,LeO (laws_heldFigure.f k a0 a1 a2 a3 a4) (laws_heldFigure.f (k + 1) a0 a1 a2 a3 a4):=by
 intro a0 a1 a2 a3 a4 k
 unfold laws_heldFigure.f
 repeat' first | (with_reducible first | exact laws_heldIntS.mono _ _ _ | exact LeO.refl _ | exact LeO.none _ | refine LeO.ite ?_ ?_ | refine LeO.bind ?_ (fun _ => ?_)) | exact laws_heldIntS.mono _ _ _
set_option maxHeartbeats 8000000 in
set_option maxRecDepth 100000 in
theorem laws_heldFigure.calls (k:Nat) (a0_0:Int) (a0_1:Int) (A0_2:Option Addr) (c0_2:Nat) (l0_2:List Int) (A0_3:Option Addr) (c0_3:Nat) (l0_3:List Int) (a1:Int) (r:Int) (w:World) (hr0_2:Kd.C (Kd.int .i64) w A0_2 l0_2.length l0_2) (hc0_2:l0_2.length ≤ c0_2) (hr0_3:Kd.C (Kd.int .i64) w A0_3 l0_3.length l0_3) (hc0_3:l0_3.length ≤ c0_3) (h:laws_heldFigure.f k a0_0 a0_1 l0_2 l0_3 a1 = some r) :
  Calls Tryd.prog 25 #[.agg #[.int .i64 a0_0,.int .i64 a0_1,.slice A0_2 l0_2.length c0_2,.slice A0_3 l0_3.length c0_3],.int .i64 a1] w fun e w' => e = .returned (.int .i64 r) ∧ Below w.heap.size w w':=by
 have hu36:=Tryd.underlying36
 have HR0_2:=am_ hr0_2
 have HC0_2:=am_ hc0_2
 clear hr0_2 hc0_2
 have HR0_3:=am_ hr0_3
 have HC0_3:=am_ hc0_3
 clear hr0_3 hc0_3
 have HB:=am_ (Below.refl w.heap.size w)
 have H:((laws_heldIntS.f k l0_2 a1).bind fun t193 => (if t193 < 0 then (some (-1)) else ((laws_heldIntS.f k l0_3 t193).bind fun t194 => (if t194 < 0 then (some (-1)) else (some t194))))) = some r:=h
 clear h
 replace H:=bi_ H
 obtain ⟨t193,A30,H⟩:=H
 replace H:(if t193 < 0 then (some (-1)) else ((laws_heldIntS.f k l0_3 t193).bind fun t194 => (if t194 < 0 then (some (-1)) else (some t194)))) = some r:=H
 have A3:=am_ A30
 clear A30
 by_cases c4:t193 < 0
 ·rw [if_pos c4] at H
  have c4b0:decide (t193 < 0) = true:=decide_eq_true c4
  clear c4
  obtain rfl:=Option.some.inj H
  go_enter Tryd.func25,Tryd.ntmps25
  go_wp2_with (first | ((with_reducible refine gate_dst (N:=2) rfl ?_); refine boxE_ (N:=2) (cs:=#[.int .i64 a0_0,.int .i64 a0_1,.slice A0_2 l0_2.length c0_2,.slice A0_3 l0_3.length c0_3]) (t:=36) ?_; intro gb192 hg w5 hbox hb; have n0_:=am_ (below_step (bl0_ HB.out) hb); have n1_:=am_ (hbox); have n2_:=am_ ((bs0_ hg HB.out:w.heap.size ≤ gb192)); have n3_:=am_ ((bs0_ hg HB.out:w.heap.size ≤ gb192)); clear HB; have HB:=n0_; have BK192:=n1_; have GW192:=n2_; have GE192:=n3_; clear n0_ n1_ n2_ n3_; clear hb hbox hg; have hcz6_0:w5.cell? ⟨gb192,0,none⟩ = some (.int .i64 a0_0):=(bc_ BK192.out 0).trans rfl; have hcz6_1:w5.cell? ⟨gb192,1,none⟩ = some (.int .i64 a0_1):=(bc_ BK192.out 1).trans rfl; have hcz6_2:w5.cell? ⟨gb192,2,none⟩ = some (.slice A0_2 l0_2.length c0_2):=(bc_ BK192.out 2).trans rfl; have hcz6_3:w5.cell? ⟨gb192,3,none⟩ = some (.slice A0_3 l0_3.length c0_3):=(bc_ BK192.out 3).trans rfl; have hfz6_0:=bz_ BK192.out 0; have hfz6_1:=bz_ BK192.out 1; have hfz6_2:=bz_ BK192.out 2; have hfz6_3:=bz_ BK192.out 3) | ((with_reducible refine gate_callee (f:=60) rfl ?_); refine goesL_ (some 8) rfl rfl Tryd.func60 (by kernel_rfl) rfl #[.slice A0_2 l0_2.length c0_2,.int .i64 a1] rfl ob_ ?_; (with_reducible refine (laws_heldIntS.calls k _ _ l0_2 a1 t193 _ ?side1 ?side2 A3.out).mono ?_); (case side1 => exact kc_ (Kd.C_below HR0_2.out HB.out)); (case side2 => exact HC0_2.out); rintro e w' ⟨rfl,⟨nd,rfl⟩⟩; refine ⟨_,rfl,?_⟩))
  go_ret
  exact ⟨er_,bl1_ HB.out GE192.out⟩
 ·rw [if_neg c4] at H
  have c4b0:decide (t193 < 0) = false:=decide_eq_false c4
  clear c4
  replace H:=bi_ H
  obtain ⟨t194,A70,H⟩:=H
  replace H:(if t194 < 0 then (some (-1)) else (some t194)) = some r:=H
  have A7:=am_ A70
  clear A70
  by_cases c8:t194 < 0
  ·rw [if_pos c8] at H
   have c8b0:decide (t194 < 0) = true:=decide_eq_true c8
   clear c8
   obtain rfl:=Option.some.inj H
   go_enter Tryd.func25,Tryd.ntmps25
   go_wp2_with (first | ((with_reducible refine gate_dst (N:=2) rfl ?_); refine boxE_ (N:=2) (cs:=#[.int .i64 a0_0,.int .i64 a0_1,.slice A0_2 l0_2.length c0_2,.slice A0_3 l0_3.length c0_3]) (t:=36) ?_; intro gb192 hg w9 hbox hb; have n0_:=am_ (below_step (bl0_ HB.out) hb); have n1_:=am_ (hbox); have n2_:=am_ ((bs0_ hg HB.out:w.heap.size ≤ gb192)); have n3_:=am_ ((bs0_ hg HB.out:w.heap.size ≤ gb192)); clear HB; have HB:=n0_; have BK192:=n1_; have GW192:=n2_; have GE192:=n3_; clear n0_ n1_ n2_ n3_; clear hb hbox hg; have hcz10_0:w9.cell? ⟨gb192,0,none⟩ = some (.int .i64 a0_0):=(bc_ BK192.out 0).trans rfl; have hcz10_1:w9.cell? ⟨gb192,1,none⟩ = some (.int .i64 a0_1):=(bc_ BK192.out 1).trans rfl; have hcz10_2:w9.cell? ⟨gb192,2,none⟩ = some (.slice A0_2 l0_2.length c0_2):=(bc_ BK192.out 2).trans rfl; have hcz10_3:w9.cell? ⟨gb192,3,none⟩ = some (.slice A0_3 l0_3.length c0_3):=(bc_ BK192.out 3).trans rfl; have hfz10_0:=bz_ BK192.out 0; have hfz10_1:=bz_ BK192.out 1; have hfz10_2:=bz_ BK192.out 2; have hfz10_3:=bz_ BK192.out 3) | ((with_reducible refine gate_callee (f:=60) rfl ?_); refine goesL_ (some 8) rfl rfl Tryd.func60 (by kernel_rfl) rfl #[.slice A0_2 l0_2.length c0_2,.int .i64 a1] rfl ob_ ?_; (with_reducible refine (laws_heldIntS.calls k _ _ l0_2 a1 t193 _ ?side1 ?side2 A3.out).mono ?_); (case side1 => exact kc_ (Kd.C_below HR0_2.out HB.out)); (case side2 => exact HC0_2.out); rintro e w' ⟨rfl,⟨nd,rfl⟩⟩; refine ⟨_,rfl,?_⟩) | ((with_reducible refine gate_callee (f:=60) rfl ?_); refine goesL_ (some 14) rfl rfl Tryd.func60 (by kernel_rfl) rfl #[.slice A0_3 l0_3.length c0_3,.int .i64 t193] rfl ob_ ?_; (with_reducible refine (laws_heldIntS.calls k _ _ l0_3 t193 t194 _ ?side1 ?side2 A7.out).mono ?_); (case side1 => repeat (first | exact (Kd.C_below HR0_3.out (bl1_ HB.out GE192.out)) | (with_reducible refine Kd.C_alloc ?_ _) | (with_reducible refine Kd.C_drewN ?_ _) | (with_reducible refine Kd.C_drew ?_))); (case side2 => exact HC0_3.out); rintro e w' ⟨rfl,⟨nd,rfl⟩⟩; refine ⟨_,rfl,?_⟩))
   go_ret
   exact ⟨er_,bl1_ HB.out GE192.out⟩
  ·rw [if_neg c8] at H
   have c8b0:decide (t194 < 0) = false:=decide_eq_false c8
   clear c8
   obtain rfl:=Option.some.inj H
   go_enter Tryd.func25,Tryd.ntmps25
   go_wp2_with (first | ((with_reducible refine gate_dst (N:=2) rfl ?_); refine boxE_ (N:=2) (cs:=#[.int .i64 a0_0,.int .i64 a0_1,.slice A0_2 l0_2.length c0_2,.slice A0_3 l0_3.length c0_3]) (t:=36) ?_; intro gb192 hg w11 hbox hb; have n0_:=am_ (below_step (bl0_ HB.out) hb); have n1_:=am_ (hbox); have n2_:=am_ ((bs0_ hg HB.out:w.heap.size ≤ gb192)); have n3_:=am_ ((bs0_ hg HB.out:w.heap.size ≤ gb192)); clear HB; have HB:=n0_; have BK192:=n1_; have GW192:=n2_; have GE192:=n3_; clear n0_ n1_ n2_ n3_; clear hb hbox hg; have hcz12_0:w11.cell? ⟨gb192,0,none⟩ = some (.int .i64 a0_0):=(bc_ BK192.out 0).trans rfl; have hcz12_1:w11.cell? ⟨gb192,1,none⟩ = some (.int .i64 a0_1):=(bc_ BK192.out 1).trans rfl; have hcz12_2:w11.cell? ⟨gb192,2,none⟩ = some (.slice A0_2 l0_2.length c0_2):=(bc_ BK192.out 2).trans rfl; have hcz12_3:w11.cell? ⟨gb192,3,none⟩ = some (.slice A0_3 l0_3.length c0_3):=(bc_ BK192.out 3).trans rfl; have hfz12_0:=bz_ BK192.out 0; have hfz12_1:=bz_ BK192.out 1; have hfz12_2:=bz_ BK192.out 2; have hfz12_3:=bz_ BK192.out 3) | ((with_reducible refine gate_callee (f:=60) rfl ?_); refine goesL_ (some 8) rfl rfl Tryd.func60 (by kernel_rfl) rfl #[.slice A0_2 l0_2.length c0_2,.int .i64 a1] rfl ob_ ?_; (with_reducible refine (laws_heldIntS.calls k _ _ l0_2 a1 t193 _ ?side1 ?side2 A3.out).mono ?_); (case side1 => exact kc_ (Kd.C_below HR0_2.out HB.out)); (case side2 => exact HC0_2.out); rintro e w' ⟨rfl,⟨nd,rfl⟩⟩; refine ⟨_,rfl,?_⟩) | ((with_reducible refine gate_callee (f:=60) rfl ?_); refine goesL_ (some 14) rfl rfl Tryd.func60 (by kernel_rfl) rfl #[.slice A0_3 l0_3.length c0_3,.int .i64 t193] rfl ob_ ?_; (with_reducible refine (laws_heldIntS.calls k _ _ l0_3 t193 t194 _ ?side1 ?side2 A7.out).mono ?_); (case side1 => repeat (first | exact (Kd.C_below HR0_3.out (bl1_ HB.out GE192.out)) | (with_reducible refine Kd.C_alloc ?_ _) | (with_reducible refine Kd.C_drewN ?_ _) | (with_reducible refine Kd.C_drew ?_))); (case side2 => exact HC0_3.out); rintro e w' ⟨rfl,⟨nd,rfl⟩⟩; refine ⟨_,rfl,?_⟩))
   go_ret
   exact ⟨er_,bl1_ HB.out GE192.out⟩


def spec_l1In.f (a0:Int) (a1:Int) (a2:Int):Option (Bool):=if a0 ≥ a1 then (some (decide (a0 ≤ a2))) else (some false)
set_option maxHeartbeats 8000000 in
set_option maxRecDepth 100000 in
theorem spec_l1In.calls (a0:Int) (a1:Int) (a2:Int) (r:Bool) (w:World) (h:spec_l1In.f a0 a1 a2 = some r) :
    Calls Tryd.prog 75 #[.int .i64 a0,.int .i64 a1,.int .i64 a2] w fun e w' => e = .returned (.bool r) ∧ Drawn0 w w':=by
  have H:(if a0 ≥ a1 then (some (decide (a0 ≤ a2))) else (some false)) = some r:=h
  clear h
  by_cases c4:a0 ≥ a1
  · rw [if_pos c4] at H
    have c4b0:decide (a1 ≤ a0) = true:=decide_eq_true c4
    clear c4
    obtain rfl:=Option.some.inj H
    go_enter Tryd.func75,Tryd.ntmps75
    go_wp2
    go_ret
    exact ⟨by first | rfl | (simp; done) | (simp [*]; done),by repeat (first | exact Drawn0.refl _ | apply Drawn0.step)⟩
  · rw [if_neg c4] at H
    have c4b0:decide (a1 ≤ a0) = false:=decide_eq_false c4
    clear c4
    obtain rfl:=Option.some.inj H
    go_enter Tryd.func75,Tryd.ntmps75
    go_wp2
    go_ret
    exact ⟨by first | rfl | (simp; done) | (simp [*]; done),by repeat (first | exact Drawn0.refl _ | apply Drawn0.step)⟩


def spec_fiGrid.f (a0:Int) (a1:Int):Option (Bool):=(spec_l1In.f a0 1 4).bind fun t101 => (if t101 = true then ((spec_l1In.f a1 1 4).bind fun t102 => (some t102)) else (some false))
set_option maxHeartbeats 8000000 in
set_option maxRecDepth 100000 in
theorem spec_fiGrid.calls (a0:Int) (a1:Int) (r:Bool) (w:World) (h:spec_fiGrid.f a0 a1 = some r) :
    Calls Tryd.prog 63 #[.int .i64 a0,.int .i64 a1] w fun e w' => e = .returned (.bool r) ∧ Drawn0 w w':=by
  have H:((spec_l1In.f a0 1 4).bind fun t101 => (if t101 = true then ((spec_l1In.f a1 1 4).bind fun t102 => (some t102)) else (some false))) = some r:=h
  clear h
  replace H:=bi_ H
  obtain ⟨t101,A30,H⟩:=H
  replace H:(if t101 = true then ((spec_l1In.f a1 1 4).bind fun t102 => (some t102)) else (some false)) = some r:=H
  have A3:=am_ A30
  clear A30
  by_cases c4:t101 = true
  · subst c4
    have H1:((spec_l1In.f a1 1 4).bind fun t102 => (some t102)) = some r:=by rw [if_pos rfl] at H; exact H
    clear H
    have H:=H1
    clear H1
    replace H:=bi_ H
    obtain ⟨t102,A50,H⟩:=H
    replace H:(some t102) = some r:=H
    have A5:=am_ A50
    clear A50
    obtain rfl:=Option.some.inj H
    go_enter Tryd.func63,Tryd.ntmps63
    go_wp2_with (first | ((with_reducible refine gate_callee (f:=75) rfl ?_); refine goesL_ (some 6) rfl rfl Tryd.func75 (by kernel_rfl) rfl #[.int .i64 a0,.int .i64 1,.int .i64 4] rfl ob_ ?_; (with_reducible refine (spec_l1In.calls a0 1 4 true _ A3.out).mono ?_); rintro e w' ⟨rfl,⟨nd,rfl⟩⟩; refine ⟨_,rfl,?_⟩) | (go_at_call 75; (with_reducible refine (spec_l1In.calls a1 1 4 t102 _ A5.out).mono ?_); rintro e w' ⟨rfl,⟨nd,rfl⟩⟩))
    go_ret
    exact ⟨by first | rfl | (simp; done) | (simp [*]; done),by repeat (first | exact Drawn0.refl _ | apply Drawn0.step)⟩
  · replace c4:=Bool.eq_false_iff.mpr c4
    subst c4
    have H1:(some false) = some r:=by rw [if_neg (show ¬ (false = true) by decide)] at H; exact H
    clear H
    have H:=H1
    clear H1
    obtain rfl:=Option.some.inj H
    go_enter Tryd.func63,Tryd.ntmps63
    go_wp2_with (first | ((with_reducible refine gate_callee (f:=75) rfl ?_); refine goesL_ (some 6) rfl rfl Tryd.func75 (by kernel_rfl) rfl #[.int .i64 a0,.int .i64 1,.int .i64 4] rfl ob_ ?_; (with_reducible refine (spec_l1In.calls a0 1 4 false _ A3.out).mono ?_); rintro e w' ⟨rfl,⟨nd,rfl⟩⟩; refine ⟨_,rfl,?_⟩))
    go_ret
    exact ⟨by first | rfl | (simp; done) | (simp [*]; done),by repeat (first | exact Drawn0.refl _ | apply Drawn0.step)⟩


theorem eqA84 (d:Nat) (w:World) (x0 y0:Int) (x1 y1:Int) :
    (Op.equalIn (d + 2) 84 (.agg #[.int .i64 x0,.int .i64 x1]) (.agg #[.int .i64 y0,.int .i64 y1])).run Tryd.prog w = .ok (x0 == y0 && (x1 == y1)) w:=by
  refine eqA_of Tryd.underlying84 (by kernel_rfl) ?_
  refine eqf_cons (by rfl) (by go_simp; rfl) (by go_simp; rfl) (by go_simp) ?_
  exact eqf_last (by rfl) (by go_simp; rfl) (by go_simp; rfl) (by go_simp)

def spec_liDirs.f :Option (ByteArray):=some (⟨#[110,101,115,119]⟩:ByteArray)
set_option maxHeartbeats 8000000 in
set_option maxRecDepth 100000 in
theorem spec_liDirs.calls  (r:ByteArray) (w:World) (h:spec_liDirs.f  = some r) :
    Calls Tryd.prog 112 #[] w fun e w' => e = .returned (.string r) ∧ Drawn0 w w':=by
  have H:(some (⟨#[110,101,115,119]⟩:ByteArray)) = some r:=h
  clear h
  obtain rfl:=Option.some.inj H
  go_enter Tryd.func112,Tryd.ntmps112
  go_wp2
  go_ret
  exact ⟨by first | rfl | (simp; done) | (simp [*]; done),by repeat (first | exact Drawn0.refl _ | apply Drawn0.step)⟩


def spec_loDir.l0:Nat → Int → Int → Option (Int)
  | 0,_,_ => none
  | k + 1,x0,x3 => if x3 < 4 then ((spec_liDirs.f).bind fun t552 => (if 0 ≤ x3 then (if x3 < (t552.size:Int) then (if (bt t552 x3) = x0 then (some x3) else (spec_loDir.l0 k x0 (wrap64 (x3 + 1)))) else (none)) else (none))) else (some (-1))
def spec_loDir.f (k:Nat) (a0:Int):Option (Int):=spec_loDir.l0 k a0 0
theorem spec_loDir.mono_l:∀ k,(∀ y0 y1,LeO (spec_loDir.l0 k y0 y1) (spec_loDir.l0 (k + 1) y0 y1))
  | 0 => fun _ _ r h => by simp [spec_loDir.l0] at h
  | k + 1 => by
    have ih0:=spec_loDir.mono_l k
    · intro y0 y1
      unfold spec_loDir.l0
      repeat' first | (with_reducible first | exact ih0 _ _ | exact LeO.refl _ | exact LeO.none _ | refine LeO.ite ?_ ?_ | refine LeO.bind ?_ (fun _ => ?_)) | exact ih0 _ _
theorem spec_loDir.mono:∀ a0 k,LeO (spec_loDir.f k a0) (spec_loDir.f (k + 1) a0):=by
  intro a0 k
  have ih0:=spec_loDir.mono_l k
  unfold spec_loDir.f
  repeat' first | (with_reducible first | exact ih0 _ _ | exact LeO.refl _ | exact LeO.none _ | refine LeO.ite ?_ ?_ | refine LeO.bind ?_ (fun _ => ?_)) | exact ih0 _ _
set_option maxHeartbeats 8000000 in
set_option maxRecDepth 100000 in
theorem spec_loDir.calls (k:Nat) (a0:Int) (r:Int) (w:World) (h:spec_loDir.f k a0 = some r) :
    Calls Tryd.prog 106 #[.int .u8 a0] w fun e w' => e = .returned (.int .i64 r) ∧ Drawn0 w w':=by
  have H:(spec_loDir.l0 k a0 0) = some r:=h
  clear h
  have H':=am_ H
  clear H
  go_enter Tryd.func106,Tryd.ntmps106
  go_wp2
  go_loopg [3] k (fun kq v3 w' => ∃ (x3_1:Int),v3 = .int .i64 x3_1 ∧ Aside0 (spec_loDir.l0 kq a0 x3_1 = some r) ∧ Aside0 (kq ≤ k) ∧ Drawn0 w w')
  case atStart => exact ⟨(0),rs_,H',⟨Nat.le_refl _⟩,by repeat (first | exact Drawn0.refl _ | apply Drawn0.step)⟩
  case round =>
    clear H'
    try clear c1
    obtain ⟨x3_1,rfl,HA,HK1,⟨m1,rfl⟩⟩:=hrel
    cases gk with
    | zero => exact absurd HA.out (by simp [spec_loDir.l0])
    | succ k1 =>
      have H:=HA.out
      clear HA
      simp only [spec_loDir.l0] at H
      by_cases c2:x3_1 < 4
      · rw [if_pos c2] at H
        have c2b0:decide (x3_1 < 4) = true:=decide_eq_true c2
        clear c2
        replace H:=bi_ H
        obtain ⟨t552,A30,H⟩:=H
        replace H:(if 0 ≤ x3_1 then (if x3_1 < (t552.size:Int) then (if (bt t552 x3_1) = a0 then (some x3_1) else (spec_loDir.l0 k1 a0 (wrap64 (x3_1 + 1)))) else (none)) else (none)) = some r:=H
        have A3:=am_ A30
        clear A30
        by_cases c4:0 ≤ x3_1
        · rw [if_pos c4] at H
          have c4b0:decide (0 ≤ x3_1) = true:=decide_eq_true c4
          clear c4
          by_cases c5:x3_1 < (t552.size:Int)
          · rw [if_pos c5] at H
            have c5b0:decide (x3_1 < (t552.size:Int)) = true:=decide_eq_true c5
            clear c5
            by_cases c7:(bt t552 x3_1) = a0
            · rw [if_pos c7] at H
              have c7b0:((bt t552 x3_1) == a0) = true:=beq_iff_eq.mpr c7
              have c7b1:((bt t552 x3_1) != a0) = false:=bne_eq_false_iff_eq.mpr c7
              clear c7
              obtain rfl:=Option.some.inj H
              go_wp2_with (first | ((with_reducible refine gate_callee (f:=112) rfl ?_); refine goesL_ (some 8) rfl rfl Tryd.func112 (by kernel_rfl) rfl #[] rfl ob_ ?_; (with_reducible refine (spec_liDirs.calls  t552 _ A3.out).mono ?_); rintro e w' ⟨rfl,⟨nd,rfl⟩⟩; refine ⟨_,rfl,?_⟩; have p6:0 ≤ (x3_1:Int):=of_decide_eq_true as_; have q6:x3_1 < (t552.size:Int):=of_decide_eq_true as_; have hx6:=bt_at t552 x3_1; replace p6:=eq_true p6; replace q6:=eq_true q6))
              go_ret
              exact ⟨by first | rfl | (simp; done) | (simp [*]; done),by repeat (first | exact Drawn0.refl _ | apply Drawn0.step)⟩
            · rw [if_neg c7] at H
              have c7b0:((bt t552 x3_1) == a0) = false:=beq_eq_false_iff_ne.mpr c7
              have c7b1:((bt t552 x3_1) != a0) = true:=bne_iff_ne.mpr c7
              have H':=am_ H
              clear H
              go_wp2_with (first | ((with_reducible refine gate_callee (f:=112) rfl ?_); refine goesL_ (some 8) rfl rfl Tryd.func112 (by kernel_rfl) rfl #[] rfl ob_ ?_; (with_reducible refine (spec_liDirs.calls  t552 _ A3.out).mono ?_); rintro e w' ⟨rfl,⟨nd,rfl⟩⟩; refine ⟨_,rfl,?_⟩; have p6:0 ≤ (x3_1:Int):=of_decide_eq_true as_; have q6:x3_1 < (t552.size:Int):=of_decide_eq_true as_; have hx6:=bt_at t552 x3_1; replace p6:=eq_true p6; replace q6:=eq_true q6))
              go_roundg k1
              case measure => have:=HK1.out; omega
              case rel => exact ⟨(wrap64 (x3_1 + 1)),rs_,H',⟨by have:=HK1.out; omega⟩,by repeat (first | exact Drawn0.refl _ | apply Drawn0.step)⟩
          · rw [if_neg c5] at H
            exact absurd H (by simp)
        · rw [if_neg c4] at H
          exact absurd H (by simp)
      · rw [if_neg c2] at H
        have c2b0:decide (x3_1 < 4) = false:=decide_eq_false c2
        clear c2
        obtain rfl:=Option.some.inj H
        go_wp2
        go_ret
        exact ⟨by first | rfl | (simp; done) | (simp [*]; done),by repeat (first | exact Drawn0.refl _ | apply Drawn0.step)⟩

end Go.Proofs.YtehjfaddhmdicaaDoor.P
namespace Go.Proofs.YtehjfaddhmdicaaDoor.P
open Go.RowKit Go.Proofs.YtehjfaddhmdicaaDoorW.PrintWords Go.Proofs.YtehjfaddhmdicaaDoorW.PrintLast Go.Proofs.YtehjfaddhmdicaaDoorW.PrintMore
attribute [local go_sem] max2_int min2_int max_two min_two max_three min_three max_four min_four   -- for this text's walks alone
set_option linter.unusedVariables false
set_option linter.unusedSimpArgs false

attribute [local go_sem high] eqA84
def spec_liHas.l0:Nat → List (S84) → Int → Int → Int → Int → Option (Bool)
 | 0,_,_,_,_,_ => none
 | k + 1,x7,x8,x9,x554000,x554001 => if x9 < x8 then (if 0 ≤ x9 then (if x9 < (x7.length:Int) then (if (((rd_T84 x7 x9).f0) == x554000 && (((rd_T84 x7 x9).f1) == x554001)) = true then (some true) else (spec_liHas.l0 k x7 x8 (wrap64 (x9 + 1)) x554000 x554001)) else (none)) else (none)) else (some false)
def spec_liHas.f (k:Nat) (l0:List (S84)) (a1_0:Int) (a1_1:Int):Option (Bool):=spec_liHas.l0 k l0 (l0.length:Int) 0 a1_0 a1_1
theorem spec_liHas.mono_l:∀ k,(∀ y0 y1 y2 y3 y4,LeO (spec_liHas.l0 k y0 y1 y2 y3 y4) (spec_liHas.l0 (k + 1) y0 y1 y2 y3 y4))
 | 0 => fun _ _ _ _ _ r h => by simp [spec_liHas.l0] at h
 | k + 1 => by
  have ih0:=spec_liHas.mono_l k
  ·intro y0 y1 y2 y3 y4
   unfold spec_liHas.l0
   repeat' first | (with_reducible first | exact ih0 _ _ _ _ _ | exact LeO.refl _ | exact LeO.none _ | refine LeO.ite ?_ ?_ | refine LeO.bind ?_ (fun _ => ?_)) | exact ih0 _ _ _ _ _
theorem spec_liHas.mono:∀ a0 a1 a2 k,LeO (spec_liHas.f k a0 a1 a2) (spec_liHas.f (k + 1) a0 a1 a2):=by
 intro a0 a1 a2 k
 have ih0:=spec_liHas.mono_l k
 unfold spec_liHas.f
 repeat' first | (with_reducible first | exact ih0 _ _ _ _ _ | exact LeO.refl _ | exact LeO.none _ | refine LeO.ite ?_ ?_ | refine LeO.bind ?_ (fun _ => ?_)) | exact ih0 _ _ _ _ _
set_option maxHeartbeats 8000000 in
set_option maxRecDepth 100000 in
theorem spec_liHas.calls (k:Nat) (A0:Option Addr) (c0:Nat) (l0:List (S84)) (a1_0:Int) (a1_1:Int) (r:Bool) (w:World) (hr0:Kd.C k84 w A0 l0.length l0) (hc0:l0.length ≤ c0) (h:spec_liHas.f k l0 a1_0 a1_1 = some r) :
  Calls Tryd.prog 107 #[.slice A0 l0.length c0,.agg #[.int .i64 a1_0,.int .i64 a1_1]] w fun e w' => e = .returned (.bool r) ∧ Below w.heap.size w w':=by
 have hu84:=Tryd.underlying84
 have HR0:=am_ hr0
 have HC0:=am_ hc0
 clear hr0 hc0
 have HB:=am_ (Below.refl w.heap.size w)
 have H:(spec_liHas.l0 k l0 (l0.length:Int) 0 a1_0 a1_1) = some r:=h
 clear h
 have H':=am_ H
 clear H
 go_enter Tryd.func107,Tryd.ntmps107
 go_wp2_with (first | ((with_reducible refine gate_dst (N:=3) rfl ?_); refine boxE_ (N:=3) (cs:=#[.int .i64 a1_0,.int .i64 a1_1]) (t:=84) ?_; intro gb553 hg w3 hbox hb; have n0_:=am_ (below_step (bl0_ HB.out) hb); have n1_:=am_ (hbox); have n2_:=am_ ((bs0_ hg HB.out:w.heap.size ≤ gb553)); have n3_:=am_ ((bs0_ hg HB.out:w.heap.size ≤ gb553)); clear HB; have HB:=n0_; have BK553:=n1_; have GW553:=n2_; have GE553:=n3_; clear n0_ n1_ n2_ n3_; clear hb hbox hg))
 go_loopg [9] k (fun kq v9 w' => ∃ (x9_1:Int),v9 = .int .i64 x9_1 ∧ Aside0 (spec_liHas.l0 kq l0 (l0.length:Int) x9_1 a1_0 a1_1 = some r) ∧ Aside0 (kq ≤ k) ∧ Aside0 (w'.heap[gb553]? = some (.cells #[.int .i64 a1_0,.int .i64 a1_1] 84 (0,0))) ∧ Aside0 (Below w.heap.size w w'))
 case atStart => exact ⟨(0),rs_,H',⟨Nat.le_refl _⟩,⟨bk_ BK553.out⟩,⟨bl1_ HB.out GE553.out⟩⟩
 case round =>
  clear H'
  try clear c1
  try clear p2
  obtain ⟨x9_1,rfl,HA,HK1,BK553,HB⟩:=hrel
  cases gk with
  | zero => exact absurd HA.out (by simp [spec_liHas.l0])
  | succ k1 =>
   have H:=HA.out
   clear HA
   simp only [spec_liHas.l0] at H
   by_cases c4:x9_1 < (l0.length:Int)
   ·rw [if_pos c4] at H
    have c4b0:decide (x9_1 < (l0.length:Int)) = true:=decide_eq_true c4
    clear c4
    by_cases c5:0 ≤ x9_1
    ·rw [if_pos c5] at H
     have c5b0:decide (0 ≤ x9_1) = true:=decide_eq_true c5
     clear c5
     by_cases c6:x9_1 < (l0.length:Int)
     ·rw [if_pos c6] at H
      have c6b0:decide (x9_1 < (l0.length:Int)) = true:=decide_eq_true c6
      clear c6
      by_cases c7:(((rd_T84 l0 x9_1).f0) == a1_0 && (((rd_T84 l0 x9_1).f1) == a1_1)) = true
      ·rw [if_pos c7] at H
       have c7b0:(((rd_T84 l0 x9_1).f0) == a1_0 && (((rd_T84 l0 x9_1).f1) == a1_1)) = true:=c7
       (try (have c7b1:decide (((rd_T84 l0 x9_1).f0) = a1_0 && (((rd_T84 l0 x9_1).f1) == a1_1)) = true:=by simpa using c7))
       (try (have c7b2:(((rd_T84 l0 x9_1).f0) == a1_0 && (((rd_T84 l0 x9_1).f1) == a1_1)) = true:=by simpa using c7))
       clear c7
       obtain rfl:=Option.some.inj H
       have p554:0 ≤ (x9_1:Int):=of_decide_eq_true as_
       have q554:x9_1 < (l0.length:Int):=of_decide_eq_true as_
       obtain ⟨ad554,e554,hx554_0,hx554_1⟩:=at_T84 HR0.out x9_1 p554 q554
       cases e554
       replace hx554_0:=(HB.out.cell (wl_ w _ hx554_0)).trans hx554_0
       replace hx554_1:=(HB.out.cell (wl_ w _ hx554_1)).trans hx554_1
       replace p554:=eq_true p554
       replace q554:=eq_true q554
       go_wp2_with (first | ((with_reducible refine gate_dst (N:=6) rfl ?_); refine boxE_ (N:=6) (cs:=#[.int .i64 0,.int .i64 0]) (t:=84) ?_; intro gb555 hg w8 hbox hb; have n0_:=am_ (bb_ BK553.out hb); have n1_:=am_ (below_step (bl1_ HB.out GE553.out) hb); have n2_:=am_ (hbox); have n3_:=am_ ((bs1_ hg HB.out GE553.out:w.heap.size ≤ gb555)); have n4_:=am_ ((bs1_ hg HB.out GE553.out:w.heap.size ≤ gb555)); have n5_:=am_ ((nl_ hg BK553.out:gb553 ≠ gb555)); have n6_:=am_ ((ng_ hg BK553.out:gb555 ≠ gb553)); clear BK553; clear HB; have BK553:=n0_; have HB:=n1_; have BK555:=n2_; have GW555:=n3_; have GE555:=n4_; have NB553_555:=n5_; have NB555_553:=n6_; clear n0_ n1_ n2_ n3_ n4_ n5_ n6_; clear hb hbox hg; have hnb9:=NB555_553.out; have hnc9:=NB553_555.out; have hcz10_0:w8.cell? ⟨gb555,0,none⟩ = some (.int .i64 0):=(bc_ BK555.out 0).trans rfl; have hcz10_1:w8.cell? ⟨gb555,1,none⟩ = some (.int .i64 0):=(bc_ BK555.out 1).trans rfl; have hfz10_0:=bz_ BK555.out 0; have hfz10_1:=bz_ BK555.out 1; have hcz11_0:w8.cell? ⟨gb553,0,none⟩ = some (.int .i64 a1_0):=(bc_ BK553.out 0).trans rfl; have hcz11_1:w8.cell? ⟨gb553,1,none⟩ = some (.int .i64 a1_1):=(bc_ BK553.out 1).trans rfl; have hfz11_0:=bz_ BK553.out 0; have hfz11_1:=bz_ BK553.out 1))
       go_ret
       exact ⟨er_,bl2_ HB.out GE553.out GE555.out⟩
      ·rw [if_neg c7] at H
       have c7b0:(((rd_T84 l0 x9_1).f0) == a1_0 && (((rd_T84 l0 x9_1).f1) == a1_1)) = false:=by simpa using c7
       (try (have c7b1:decide (((rd_T84 l0 x9_1).f0) = a1_0 && (((rd_T84 l0 x9_1).f1) == a1_1)) = false:=by simpa using c7))
       (try (have c7b2:(((rd_T84 l0 x9_1).f0) == a1_0 && (((rd_T84 l0 x9_1).f1) == a1_1)) = false:=by simpa using c7))
       (try (have c7b3:¬ (((rd_T84 l0 x9_1).f0) = a1_0 && (((rd_T84 l0 x9_1).f1) == a1_1)):=by simpa using c7))
       clear c7
       have H':=am_ H
       clear H
       have p554:0 ≤ (x9_1:Int):=of_decide_eq_true as_
       have q554:x9_1 < (l0.length:Int):=of_decide_eq_true as_
       obtain ⟨ad554,e554,hx554_0,hx554_1⟩:=at_T84 HR0.out x9_1 p554 q554
       cases e554
       replace hx554_0:=(HB.out.cell (wl_ w _ hx554_0)).trans hx554_0
       replace hx554_1:=(HB.out.cell (wl_ w _ hx554_1)).trans hx554_1
       replace p554:=eq_true p554
       replace q554:=eq_true q554
       go_wp2_with (first | ((with_reducible refine gate_dst (N:=6) rfl ?_); refine boxE_ (N:=6) (cs:=#[.int .i64 0,.int .i64 0]) (t:=84) ?_; intro gb555 hg w12 hbox hb; have n0_:=am_ (bb_ BK553.out hb); have n1_:=am_ (below_step (bl1_ HB.out GE553.out) hb); have n2_:=am_ (hbox); have n3_:=am_ ((bs1_ hg HB.out GE553.out:w.heap.size ≤ gb555)); have n4_:=am_ ((bs1_ hg HB.out GE553.out:w.heap.size ≤ gb555)); have n5_:=am_ ((nl_ hg BK553.out:gb553 ≠ gb555)); have n6_:=am_ ((ng_ hg BK553.out:gb555 ≠ gb553)); clear BK553; clear HB; have BK553:=n0_; have HB:=n1_; have BK555:=n2_; have GW555:=n3_; have GE555:=n4_; have NB553_555:=n5_; have NB555_553:=n6_; clear n0_ n1_ n2_ n3_ n4_ n5_ n6_; clear hb hbox hg; have hnb13:=NB555_553.out; have hnc13:=NB553_555.out; have hcz14_0:w12.cell? ⟨gb555,0,none⟩ = some (.int .i64 0):=(bc_ BK555.out 0).trans rfl; have hcz14_1:w12.cell? ⟨gb555,1,none⟩ = some (.int .i64 0):=(bc_ BK555.out 1).trans rfl; have hfz14_0:=bz_ BK555.out 0; have hfz14_1:=bz_ BK555.out 1; have hcz15_0:w12.cell? ⟨gb553,0,none⟩ = some (.int .i64 a1_0):=(bc_ BK553.out 0).trans rfl; have hcz15_1:w12.cell? ⟨gb553,1,none⟩ = some (.int .i64 a1_1):=(bc_ BK553.out 1).trans rfl; have hfz15_0:=bz_ BK553.out 0; have hfz15_1:=bz_ BK553.out 1))
       go_roundg k1
       case measure => have:=HK1.out; omega
       case rel => exact ⟨(wrap64 (x9_1 + 1)),rs_,H',⟨by have:=HK1.out; omega⟩,⟨bf2_ NB553_555.out NB553_555.out BK553.out⟩,⟨bl2_ HB.out GE553.out GE555.out⟩⟩
     ·rw [if_neg c6] at H
      exact absurd H (by simp)
    ·rw [if_neg c5] at H
     exact absurd H (by simp)
   ·rw [if_neg c4] at H
    have c4b0:decide (x9_1 < (l0.length:Int)) = false:=decide_eq_false c4
    clear c4
    obtain rfl:=Option.some.inj H
    go_wp2
    go_ret
    exact ⟨er_,bl1_ HB.out GE553.out⟩

end Go.Proofs.YtehjfaddhmdicaaDoor.P
namespace Go.Proofs.YtehjfaddhmdicaaDoor.P
open Go.RowKit Go.Proofs.YtehjfaddhmdicaaDoorW.PrintWords Go.Proofs.YtehjfaddhmdicaaDoorW.PrintLast Go.Proofs.YtehjfaddhmdicaaDoorW.PrintMore
attribute [local go_sem] max2_int min2_int max_two min_two max_three min_three max_four min_four   -- for this text's walks alone
set_option linter.unusedVariables false
set_option linter.unusedSimpArgs false

def spec_loStep.f (a0_0:Int) (a0_1:Int) (a1:Int):Option (Int × Int):=(some (([0,1,0,(-1)]:List Int):List Int)).bind fun y558 => (if 0 ≤ a1 then (if a1 < (y558.length:Int) then ((some (([(-1),0,1,0]:List Int):List Int)).bind fun y562 => (if a1 < (y562.length:Int) then (some (wrap64 (a0_0 + (rd y558 a1)),wrap64 (a0_1 + (rd y562 a1)))) else (none))) else (none)) else (none))
def spec_loStep.T1:Bool × List (List Nat × List Nat):=(true,[([],[]),([0],[0]),([],[]),([],[]),([2,3],[2,3]),([4],[4]),([1,5],[1,5]),([],[]),([7],[7]),([],[]),([],[]),([9,10],[9,10]),([11],[11]),([8,12],[8,12]),([6,13],[6,13]),([14,0,1,2,3,4,5,6,7,8,9,10,11,12,13,14],[14])])
def spec_loStep.B1:List Nat:=[0,1,0,0,12,28,63,0,128,0,0,1536,3584,8064,16383,32767]
theorem spec_loStep.tab1:rtab .any (opsOf Tryd.f108 1) = spec_loStep.T1:=by kernel_rfl
theorem spec_loStep.bits1:waitsOk spec_loStep.T1.2 spec_loStep.B1 = true:=by kernel_rfl
set_option maxHeartbeats 8000000 in
set_option maxRecDepth 100000 in
theorem spec_loStep.calls (a0_0:Int) (a0_1:Int) (a1:Int) (r1:Int) (r2:Int) (w:World) (h:spec_loStep.f a0_0 a0_1 a1 = some (r1,r2)) :
  Calls Tryd.prog 108 #[.agg #[.int .i64 a0_0,.int .i64 a0_1],.int .i64 a1] w fun e w' => e = .returned (.agg #[.int .i64 r1,.int .i64 r2]) ∧ Below w.heap.size w w':=by
 have hu84:=Tryd.underlying84
 have HB:=am_ (Below.refl w.heap.size w)
 have H:((some (([0,1,0,(-1)]:List Int):List Int)).bind fun y558 => (if 0 ≤ a1 then (if a1 < (y558.length:Int) then ((some (([(-1),0,1,0]:List Int):List Int)).bind fun y562 => (if a1 < (y562.length:Int) then (some (wrap64 (a0_0 + (rd y558 a1)),wrap64 (a0_1 + (rd y562 a1)))) else (none))) else (none)) else (none))) = some (r1,r2):=h
 clear h
 obtain ⟨y558,hy558⟩:∃ y_:List Int,y_ = (([0,1,0,(-1)]:List Int)):=⟨_,rfl⟩
 replace H:(if 0 ≤ a1 then (if a1 < (y558.length:Int) then ((some (([(-1),0,1,0]:List Int):List Int)).bind fun y562 => (if a1 < (y562.length:Int) then (some (wrap64 (a0_0 + (rd y558 a1)),wrap64 (a0_1 + (rd y562 a1)))) else (none))) else (none)) else (none)) = some (r1,r2):=by first | (rw [hy558]; with_reducible exact H) | (have H2_:=(Option.bind_some _ _).symm.trans H; rw [hy558]; with_reducible exact H2_) | (have H2_:=(Option.bind_some _ _).symm.trans H; with_reducible exact H2_) | with_reducible exact H | (rw [hy558]; exact H) | exact H
 have Ny558:=am_ hy558
 clear hy558
 by_cases c3:0 ≤ a1
 ·rw [if_pos c3] at H
  have c3b0:decide (0 ≤ a1) = true:=decide_eq_true c3
  clear c3
  by_cases c4:a1 < (y558.length:Int)
  ·rw [if_pos c4] at H
   have c4b0:decide (a1 < (y558.length:Int)) = true:=decide_eq_true c4
   clear c4
   obtain ⟨y562,hy562⟩:∃ y_:List Int,y_ = (([(-1),0,1,0]:List Int)):=⟨_,rfl⟩
   replace H:(if a1 < (y562.length:Int) then (some (wrap64 (a0_0 + (rd y558 a1)),wrap64 (a0_1 + (rd y562 a1)))) else (none)) = some (r1,r2):=by first | (rw [hy562]; with_reducible exact H) | (have H2_:=(Option.bind_some _ _).symm.trans H; rw [hy562]; with_reducible exact H2_) | (have H2_:=(Option.bind_some _ _).symm.trans H; with_reducible exact H2_) | with_reducible exact H | (rw [hy562]; exact H) | exact H
   have Ny562:=am_ hy562
   clear hy562
   by_cases c5:a1 < (y562.length:Int)
   ·rw [if_pos c5] at H
    have c5b0:decide (a1 < (y562.length:Int)) = true:=decide_eq_true c5
    clear c5
    simp only [Option.some.injEq,Prod.mk.injEq] at H
    obtain ⟨rfl,rfl⟩:=H
    go_enter Tryd.func108,Tryd.ntmps108
    try go_wp2_with (first | ((with_reducible refine gate_dst (N:=2) rfl ?_); refine boxE_ (N:=2) (cs:=#[.int .i64 a0_0,.int .i64 a0_1]) (t:=84) ?_; intro gb556 hg w6 hbox hb; have n0_:=am_ (below_step (bl0_ HB.out) hb); have n1_:=am_ (hbox); have n2_:=am_ ((bs0_ hg HB.out:w.heap.size ≤ gb556)); have n3_:=am_ ((bs0_ hg HB.out:w.heap.size ≤ gb556)); clear HB; have HB:=n0_; have BK556:=n1_; have GW556:=n2_; have GE556:=n3_; clear n0_ n1_ n2_ n3_; clear hb hbox hg) | ((with_reducible refine gate_dst (N:=4) rfl ?_); refine boxE_ (N:=4) (cs:=#[.int .i64 0,.int .i64 0]) (t:=84) ?_; intro gb557 hg w7 hbox hb; have n0_:=am_ (bb_ BK556.out hb); have n1_:=am_ (below_step (bl1_ HB.out GE556.out) hb); have n2_:=am_ (hbox); have n3_:=am_ ((bs1_ hg HB.out GE556.out:w.heap.size ≤ gb557)); have n4_:=am_ ((bs1_ hg HB.out GE556.out:w.heap.size ≤ gb557)); have n5_:=am_ ((nl_ hg BK556.out:gb556 ≠ gb557)); have n6_:=am_ ((ng_ hg BK556.out:gb557 ≠ gb556)); clear BK556; clear HB; have BK556:=n0_; have HB:=n1_; have BK557:=n2_; have GW557:=n3_; have GE557:=n4_; have NB556_557:=n5_; have NB557_556:=n6_; clear n0_ n1_ n2_ n3_ n4_ n5_ n6_; clear hb hbox hg))
    have pi561:(0 ≤ (a1:Int)) = True:=eq_true (of_decide_eq_true as_)
    have qi561:(a1 < (y558.length:Int)) = True:=eq_true (of_decide_eq_true as_)
    have pi565:(0 ≤ (a1:Int)) = True:=eq_true (of_decide_eq_true as_)
    have qi565:(a1 < (y562.length:Int)) = True:=eq_true (of_decide_eq_true as_)
    have n0_:=am_ (blk_drew BK556.out)
    have n1_:=am_ (blk_drew BK557.out)
    have n2_:=am_ (below_drew1 HB.out)
    clear BK556
    clear BK557
    clear HB
    have BK556:=n0_
    have BK557:=n1_
    have HB:=n2_
    clear n0_ n1_ n2_
    refine start_ (n:=16) (S:=fun w' => True) (ds:=[]) #[false,false,false,false,false,false,false,false,false,false,false,false,false,false,false,false] (by kernel_rfl) rfl rfl trivial (fun hHeld => ?_); refine with_tabW spec_loStep.tab1 spec_loStep.bits1 (fun HT_ HW_ => ?_)
    generalize w7.drew = w8 at BK556 BK557 HB hHeld ⊢
    refine pure_ (i:=0) (N:=some 5) (v:=?_) (a':=?_) #[true,false,false,false,false,false,false,false,false,false,false,false,false,false,false,false] rfl rfl (any_of HT_.out (by kernel_rfl)) (fun _ _ _ h => h) (Or.inl ⟨by rfl,?_⟩) ?_ ?_
    rotate_left
    ·intro w'
     go_simp
     with_reducible rfl
    rotate_left
    ·simp only [Act.put,List.setIfInBounds_toArray,List.set_cons_zero,List.set_cons_succ,i64_w,i32_w]
     rfl
    refine pure_ (i:=3) (N:=some 8) (v:=?_) (a':=?_) #[true,false,false,true,false,false,false,false,false,false,false,false,false,false,false,false] rfl rfl (any_of HT_.out (by kernel_rfl)) (fun _ _ _ h => h) (Or.inl ⟨by rfl,?_⟩) ?_ ?_
    rotate_left
    ·intro w'
     go_simp
     with_reducible rfl
    rotate_left
    ·simp only [Act.put,List.setIfInBounds_toArray,List.set_cons_zero,List.set_cons_succ,i64_w,i32_w]
     rfl
    refine pure_ (i:=7) (N:=some 12) (v:=?_) (a':=?_) #[true,false,false,true,false,false,false,true,false,false,false,false,false,false,false,false] rfl rfl (any_of HT_.out (by kernel_rfl)) (fun _ _ _ h => h) (Or.inl ⟨by rfl,?_⟩) ?_ ?_
    rotate_left
    ·intro w'
     go_simp
     with_reducible rfl
    rotate_left
    ·simp only [Act.put,List.setIfInBounds_toArray,List.set_cons_zero,List.set_cons_succ,i64_w,i32_w]
     rfl
    refine pure_ (i:=10) (N:=some 15) (v:=?_) (a':=?_) #[true,false,false,true,false,false,false,true,false,false,true,false,false,false,false,false] rfl rfl (any_of HT_.out (by kernel_rfl)) (fun _ _ _ h => h) (Or.inl ⟨by rfl,?_⟩) ?_ ?_
    rotate_left
    ·intro w'
     go_simp
     with_reducible rfl
    rotate_left
    ·simp only [Act.put,List.setIfInBounds_toArray,List.set_cons_zero,List.set_cons_succ,i64_w,i32_w]
     rfl
    refine inv_at [1,2,4,5,6,8,9,11,12,13,14,15] (fun a0_ b a w' => ∃ (v559:Value) (adz_v559:Addr) (v563:Value) (adz_v563:Addr) (m4_:Value) (m11_:Value),a = putSel a0_ b [(1,6,.int .i64 a0_0),(2,7,v559),(4,9,m4_),(5,10,.int .i64 (rd y558 a1)),(6,11,.int .i64 (wrap64 (a0_0 + (rd y558 a1)))),(8,13,.int .i64 a0_1),(9,14,v563),(11,16,m11_),(12,17,.int .i64 (rd y562 a1)),(13,18,.int .i64 (wrap64 (a0_1 + (rd y562 a1)))),(14,19,.agg #[.int .i64 (wrap64 (a0_0 + (rd y558 a1))),.int .i64 (wrap64 (a0_1 + (rd y562 a1)))])] ∧ (w'.heap[gb556]? = some (.cells #[.int .i64 a0_0,.int .i64 a0_1] 84 (0,0))) ∧ (b 15 = false → w'.heap[gb557]? = some (.cells #[.int .i64 0,.int .i64 0] 84 (0,0))) ∧ (Below w.heap.size w w') ∧ (b 2 = true → Kd.R (Kd.int .i64) 3 w' w.heap.size (fun _ => True) v559 y558) ∧ (b 2 = true → ∃ c_,(v559:Value) = .slice (some adz_v559) y558.length c_) ∧ (b 9 = true → Kd.R (Kd.int .i64) 3 w' w.heap.size (fun _ => True) v563 y562) ∧ (b 9 = true → ∃ c_,(v563:Value) = .slice (some adz_v563) y562.length c_) ∧ (b 15 = true → w'.heap[gb557]? = some (.cells #[.int .i64 (wrap64 (a0_0 + (rd y558 a1))),.int .i64 (wrap64 (a0_1 + (rd y562 a1)))] 84 (0,0))) ∧ (b 4 = true → (m4_:Value) = .pointer (some (adz_v559.add (a1).toNat))) ∧ (b 11 = true → (m11_:Value) = .pointer (some (adz_v563.add (a1).toNat)))) HT_.out HW_.out (by kernel_rfl) (by kernel_rfl) ?_ ?_ ?_
    ·exact ⟨.bool false,⟨0,0,none⟩,.bool false,⟨0,0,none⟩,.bool false,.bool false,by simp only [putSel,Bool.false_eq_true,if_false],BK556.out,fun _ => BK557.out,HB.out,fun h_ => absurd h_ (by decide),fun h_ => absurd h_ (by decide),fun h_ => absurd h_ (by decide),fun h_ => absurd h_ (by decide),fun h_ => absurd h_ (by decide),fun h_ => absurd h_ (by decide),fun h_ => absurd h_ (by decide)⟩
    ·skip
     clear BK556 BK557 HB
     refine steps_cons ?_ ?_
     ·rintro b a w' ⟨v559,adz_v559,v563,adz_v563,m4_,m11_,ha,Q_BK556,Q_BK557,Q_HB,Q_HO560,Q_HA_HO560,Q_HO564,Q_HA_HO564,Q_BK557_e15,Q_X4_,Q_X11_⟩ hb_ hon hoff
      refine ⟨_,rfl,fun K hK => ?_⟩
      have e5:a.tmps[5]? = some (.pointer (some ⟨gb556,0,none⟩)):=by rw [ha]; exact (putSel_off rfl).trans rfl
      replace ha:=am_ ha
      have BK556:=am_ Q_BK556
      have BK557:=am_ (Q_BK557 (hoff 15 (by kernel_rfl)))
      have HB:=am_ Q_HB
      have hc0_:w'.cell? ⟨gb556,0,none⟩ = some (.int .i64 a0_0):=(bc_ BK556.out 0).trans rfl
      have hc1_:w'.cell? ⟨gb556,1,none⟩ = some (.int .i64 a0_1):=(bc_ BK556.out 1).trans rfl
      refine value_ (w1:=w') (v:=.int .i64 a0_0) (by rfl) rfl ?_ ?_
      ·go_simp
       (try simp only [i64_w])
       try rfl
      refine hK.out _ _ ⟨v559,adz_v559,v563,adz_v563,m4_,m11_,(by rw [ha.out]; exact putSel_upk 0 hb_ rfl rfl rfl),Q_BK556,Q_BK557,Q_HB,Q_HO560,Q_HA_HO560,Q_HO564,Q_HA_HO564,fun h0_ => absurd ((hoff 15 (by kernel_rfl)).symm.trans h0_) (by decide),Q_X4_,Q_X11_⟩
     refine steps_cons ?_ ?_
     ·rintro b a w' ⟨v559,adz_v559,v563,adz_v563,m4_,m11_,ha,Q_BK556,Q_BK557,Q_HB,Q_HO560,Q_HA_HO560,Q_HO564,Q_HA_HO564,Q_BK557_e15,Q_X4_,Q_X11_⟩ hb_ hon hoff
      refine ⟨_,rfl,fun K hK => ?_⟩
      replace ha:=am_ ha
      have BK556:=am_ Q_BK556
      have BK557:=am_ (Q_BK557 (hoff 15 (by kernel_rfl)))
      have HB:=am_ Q_HB
      refine Kd.R_lit_step (Kd.int .i64) _ 3 ?hg (N:=7) ?hd (xs:=([0,1,0,(-1)]:List Int)) (inner:=[.int .i64 0,.int .i64 1,.int .i64 0,.int .i64 (-1)]) (ok:=fun _ => True) (okp:=fun _ => True) ?hr ?hp (fun _ hk => hk) trivial (Below.refl _ _) (Nat.le_refl _) (by simp) ?_; (case hd => rfl); (case hg => rfl); (case hr => first | (go_simp; done) | (go_simp; rfl)); (case hp => exact (Reps.one (show Kd.M (Kd.int .i64) _ _ _ 0 [.int .i64 0] from rfl) (Reps.one (show Kd.M (Kd.int .i64) _ _ _ 1 [.int .i64 1] from rfl) (Reps.one (show Kd.M (Kd.int .i64) _ _ _ 0 [.int .i64 0] from rfl) (Reps.one (show Kd.M (Kd.int .i64) _ _ _ (-1) [.int .i64 (-1)] from rfl) (Reps.none _ _))))))
      intro v559 w9 ho10 hb hg_ hnew_
      clear hg_ hnew_
      (first | rw [← Ny558.out] at ho10 | (simp only [Int.reduceToNat] at ho10; rw [← Ny558.out] at ho10))
      have n0_:=am_ (Kd.R_lower ho10 (below_size (bl2_ HB.out GE556.out GE557.out)))
      have n1_:=am_ (bb_ BK556.out hb)
      have n2_:=am_ (bb_ BK557.out hb)
      have n3_:=am_ (below_step (bl2_ HB.out GE556.out GE557.out) hb)
      have z_HO564:=fun (h0_:b 9 = true) => (show Kd.R (Kd.int .i64) 3 w9 w.heap.size (fun _ => True) v563 y562 from by first | exact (Kd.R_elder' (by (with_reducible repeat (first | apply Kd.R_alloc | apply Kd.R_drewN | apply Kd.R_drew)); exact (Q_HO564 h0_)) (Kd.R_base ho10) hb) | exact Kd.R_mono (Kd.R_elder' (by (with_reducible repeat (first | apply Kd.R_alloc | apply Kd.R_drewN | apply Kd.R_drew)); exact (Q_HO564 h0_)) (Kd.R_base ho10) hb) (fun _ h_ => by first | trivial | exact h_ | exact h_.1))
      clear BK556
      clear BK557
      clear HB
      have HO560:=n0_
      have BK556:=n1_
      have BK557:=n2_
      have HB:=n3_
      clear n0_ n1_ n2_ n3_
      clear hb ho10
      obtain ⟨Ao11,co11,eo11⟩:=Kd.R_slice HO560.out
      subst eo11
      obtain ⟨ado11,fo11,_⟩:=Kd.at_int (Kd.R_reads' HO560.out).2.2 0 (by decide) (by rw [Ny558.out]; simp)
      cases fo11
      refine hK.out _ _ ⟨.slice (some ado11) y558.length co11,ado11,v563,adz_v563,m4_,m11_,(by rw [ha.out]; exact putSel_upk 1 hb_ rfl rfl rfl),(bk_ BK556.out),fun _ => (bk_ BK557.out),(bl2_ HB.out GE556.out GE557.out),fun _ => (kr_ HO560.out),fun _ => ⟨_,rfl⟩,z_HO564,Q_HA_HO564,fun h0_ => absurd ((hoff 15 (by kernel_rfl)).symm.trans h0_) (by decide),fun h0_ => absurd ((hoff 4 (by kernel_rfl)).symm.trans h0_) (by decide),Q_X11_⟩
     refine steps_cons ?_ ?_
     ·rintro b a w' ⟨v559,adz_v559,v563,adz_v563,m4_,m11_,ha,Q_BK556,Q_BK557,Q_HB,Q_HO560,Q_HA_HO560,Q_HO564,Q_HA_HO564,Q_BK557_e15,Q_X4_,Q_X11_⟩ hb_ hon hoff
      refine ⟨_,rfl,fun K hK => ?_⟩
      have e7:a.tmps[7]? = some (v559):=by rw [ha]; exact putSel_on (e:=(2,7,v559)) 1 rfl rfl (hon 2 (by kernel_rfl)) rfl
      have e8:a.tmps[8]? = some (.int .i64 a1):=by rw [ha]; exact (putSel_off rfl).trans rfl
      replace ha:=am_ ha
      have BK556:=am_ Q_BK556
      have BK557:=am_ (Q_BK557 (hoff 15 (by kernel_rfl)))
      have HB:=am_ Q_HB
      have HO560:=am_ (Q_HO560 (hon 2 (by kernel_rfl)))
      have HA_HO560:=am_ (Q_HA_HO560 (hon 2 (by kernel_rfl)))
      obtain ⟨c_,hv_⟩:=HA_HO560.out
      rw [hv_] at e7
      refine value_ (w1:=w') (v:=.pointer (some (adz_v559.add (a1).toNat))) (by rfl) rfl ?_ ?_
      ·go_simp
       (try simp only [i64_w])
       try rfl
      refine hK.out _ _ ⟨v559,adz_v559,v563,adz_v563,(.pointer (some (adz_v559.add (a1).toNat))),m11_,(by rw [ha.out]; exact putSel_upk 2 hb_ rfl rfl rfl),Q_BK556,Q_BK557,Q_HB,Q_HO560,Q_HA_HO560,Q_HO564,Q_HA_HO564,fun h0_ => absurd ((hoff 15 (by kernel_rfl)).symm.trans h0_) (by decide),fun _ => rfl,Q_X11_⟩
     refine steps_cons ?_ ?_
     ·rintro b a w' ⟨v559,adz_v559,v563,adz_v563,m4_,m11_,ha,Q_BK556,Q_BK557,Q_HB,Q_HO560,Q_HA_HO560,Q_HO564,Q_HA_HO564,Q_BK557_e15,Q_X4_,Q_X11_⟩ hb_ hon hoff
      refine ⟨_,rfl,fun K hK => ?_⟩
      have e9:a.tmps[9]? = some (m4_):=by rw [ha]; exact putSel_on (e:=(4,9,m4_)) 2 rfl rfl (hon 4 (by kernel_rfl)) rfl
      rw [Q_X4_ (hon 4 (by kernel_rfl))] at e9
      replace ha:=am_ ha
      have BK556:=am_ Q_BK556
      have BK557:=am_ (Q_BK557 (hoff 15 (by kernel_rfl)))
      have HB:=am_ Q_HB
      have HO560:=am_ (Q_HO560 (hon 2 (by kernel_rfl)))
      have HA_HO560:=am_ (Q_HA_HO560 (hon 2 (by kernel_rfl)))
      obtain ⟨c_,hv_⟩:=HA_HO560.out
      have hF_:=HO560.out
      rw [hv_] at hF_
      obtain ⟨ad_,ea_,hx_⟩:=Kd.at_int (Kd.R_reads' hF_).2.2 a1 (of_eq_true pi561) (of_eq_true qi561)
      cases ea_
      refine value_ (w1:=w') (v:=.int .i64 (rd y558 a1)) (by rfl) rfl ?_ ?_
      ·go_simp
       (try simp only [i64_w])
       try rfl
      refine hK.out _ _ ⟨v559,adz_v559,v563,adz_v563,m4_,m11_,(by rw [ha.out]; exact putSel_upk 3 hb_ rfl rfl rfl),Q_BK556,Q_BK557,Q_HB,Q_HO560,Q_HA_HO560,Q_HO564,Q_HA_HO564,fun h0_ => absurd ((hoff 15 (by kernel_rfl)).symm.trans h0_) (by decide),Q_X4_,Q_X11_⟩
     refine steps_cons ?_ ?_
     ·rintro b a w' ⟨v559,adz_v559,v563,adz_v563,m4_,m11_,ha,Q_BK556,Q_BK557,Q_HB,Q_HO560,Q_HA_HO560,Q_HO564,Q_HA_HO564,Q_BK557_e15,Q_X4_,Q_X11_⟩ hb_ hon hoff
      refine ⟨_,rfl,fun K hK => ?_⟩
      have e6:a.tmps[6]? = some (.int .i64 a0_0):=by rw [ha]; exact putSel_on (e:=(1,6,.int .i64 a0_0)) 0 rfl rfl (hon 1 (by kernel_rfl)) rfl
      have e10:a.tmps[10]? = some (.int .i64 (rd y558 a1)):=by rw [ha]; exact putSel_on (e:=(5,10,.int .i64 (rd y558 a1))) 3 rfl rfl (hon 5 (by kernel_rfl)) rfl
      replace ha:=am_ ha
      have BK556:=am_ Q_BK556
      have BK557:=am_ (Q_BK557 (hoff 15 (by kernel_rfl)))
      have HB:=am_ Q_HB
      have HO560:=am_ (Q_HO560 (hon 2 (by kernel_rfl)))
      have HA_HO560:=am_ (Q_HA_HO560 (hon 2 (by kernel_rfl)))
      refine value_ (w1:=w') (v:=.int .i64 (wrap64 (a0_0 + (rd y558 a1)))) (by rfl) rfl ?_ ?_
      ·go_simp
       (try simp only [i64_w])
       try rfl
      refine hK.out _ _ ⟨v559,adz_v559,v563,adz_v563,m4_,m11_,(by rw [ha.out]; exact putSel_upk 4 hb_ rfl rfl rfl),Q_BK556,Q_BK557,Q_HB,Q_HO560,Q_HA_HO560,Q_HO564,Q_HA_HO564,fun h0_ => absurd ((hoff 15 (by kernel_rfl)).symm.trans h0_) (by decide),Q_X4_,Q_X11_⟩
     refine steps_cons ?_ ?_
     ·rintro b a w' ⟨v559,adz_v559,v563,adz_v563,m4_,m11_,ha,Q_BK556,Q_BK557,Q_HB,Q_HO560,Q_HA_HO560,Q_HO564,Q_HA_HO564,Q_BK557_e15,Q_X4_,Q_X11_⟩ hb_ hon hoff
      refine ⟨_,rfl,fun K hK => ?_⟩
      have e12:a.tmps[12]? = some (.pointer (some ⟨gb556,1,none⟩)):=by rw [ha]; exact (putSel_off rfl).trans rfl
      replace ha:=am_ ha
      have BK556:=am_ Q_BK556
      have BK557:=am_ (Q_BK557 (hoff 15 (by kernel_rfl)))
      have HB:=am_ Q_HB
      have hc0_:w'.cell? ⟨gb556,0,none⟩ = some (.int .i64 a0_0):=(bc_ BK556.out 0).trans rfl
      have hc1_:w'.cell? ⟨gb556,1,none⟩ = some (.int .i64 a0_1):=(bc_ BK556.out 1).trans rfl
      refine value_ (w1:=w') (v:=.int .i64 a0_1) (by rfl) rfl ?_ ?_
      ·go_simp
       (try simp only [i64_w])
       try rfl
      refine hK.out _ _ ⟨v559,adz_v559,v563,adz_v563,m4_,m11_,(by rw [ha.out]; exact putSel_upk 5 hb_ rfl rfl rfl),Q_BK556,Q_BK557,Q_HB,Q_HO560,Q_HA_HO560,Q_HO564,Q_HA_HO564,fun h0_ => absurd ((hoff 15 (by kernel_rfl)).symm.trans h0_) (by decide),Q_X4_,Q_X11_⟩
     refine steps_cons ?_ ?_
     ·rintro b a w' ⟨v559,adz_v559,v563,adz_v563,m4_,m11_,ha,Q_BK556,Q_BK557,Q_HB,Q_HO560,Q_HA_HO560,Q_HO564,Q_HA_HO564,Q_BK557_e15,Q_X4_,Q_X11_⟩ hb_ hon hoff
      refine ⟨_,rfl,fun K hK => ?_⟩
      replace ha:=am_ ha
      have BK556:=am_ Q_BK556
      have BK557:=am_ (Q_BK557 (hoff 15 (by kernel_rfl)))
      have HB:=am_ Q_HB
      refine Kd.R_lit_step (Kd.int .i64) _ 3 ?hg (N:=14) ?hd (xs:=([(-1),0,1,0]:List Int)) (inner:=[.int .i64 (-1),.int .i64 0,.int .i64 1,.int .i64 0]) (ok:=fun _ => True) (okp:=fun _ => True) ?hr ?hp (fun _ hk => hk) trivial (Below.refl _ _) (Nat.le_refl _) (by simp) ?_; (case hd => rfl); (case hg => rfl); (case hr => first | (go_simp; done) | (go_simp; rfl)); (case hp => exact (Reps.one (show Kd.M (Kd.int .i64) _ _ _ (-1) [.int .i64 (-1)] from rfl) (Reps.one (show Kd.M (Kd.int .i64) _ _ _ 0 [.int .i64 0] from rfl) (Reps.one (show Kd.M (Kd.int .i64) _ _ _ 1 [.int .i64 1] from rfl) (Reps.one (show Kd.M (Kd.int .i64) _ _ _ 0 [.int .i64 0] from rfl) (Reps.none _ _))))))
      intro v563 w9 ho10 hb hg_ hnew_
      clear hg_ hnew_
      (first | rw [← Ny562.out] at ho10 | (simp only [Int.reduceToNat] at ho10; rw [← Ny562.out] at ho10))
      have n0_:=am_ (Kd.R_lower ho10 (below_size (bl2_ HB.out GE556.out GE557.out)))
      have n1_:=am_ (bb_ BK556.out hb)
      have n2_:=am_ (bb_ BK557.out hb)
      have n3_:=am_ (below_step (bl2_ HB.out GE556.out GE557.out) hb)
      have z_HO560:=fun (h0_:b 2 = true) => (show Kd.R (Kd.int .i64) 3 w9 w.heap.size (fun _ => True) v559 y558 from by first | exact (Kd.R_elder' (by (with_reducible repeat (first | apply Kd.R_alloc | apply Kd.R_drewN | apply Kd.R_drew)); exact (Q_HO560 h0_)) (Kd.R_base ho10) hb) | exact Kd.R_mono (Kd.R_elder' (by (with_reducible repeat (first | apply Kd.R_alloc | apply Kd.R_drewN | apply Kd.R_drew)); exact (Q_HO560 h0_)) (Kd.R_base ho10) hb) (fun _ h_ => by first | trivial | exact h_ | exact h_.1))
      clear BK556
      clear BK557
      clear HB
      have HO564:=n0_
      have BK556:=n1_
      have BK557:=n2_
      have HB:=n3_
      clear n0_ n1_ n2_ n3_
      clear hb ho10
      obtain ⟨Ao11,co11,eo11⟩:=Kd.R_slice HO564.out
      subst eo11
      obtain ⟨ado11,fo11,_⟩:=Kd.at_int (Kd.R_reads' HO564.out).2.2 0 (by decide) (by rw [Ny562.out]; simp)
      cases fo11
      refine hK.out _ _ ⟨v559,adz_v559,.slice (some ado11) y562.length co11,ado11,m4_,m11_,(by rw [ha.out]; exact putSel_upk 6 hb_ rfl rfl rfl),(bk_ BK556.out),fun _ => (bk_ BK557.out),(bl2_ HB.out GE556.out GE557.out),z_HO560,Q_HA_HO560,fun _ => (kr_ HO564.out),fun _ => ⟨_,rfl⟩,fun h0_ => absurd ((hoff 15 (by kernel_rfl)).symm.trans h0_) (by decide),Q_X4_,fun h0_ => absurd ((hoff 11 (by kernel_rfl)).symm.trans h0_) (by decide)⟩
     refine steps_cons ?_ ?_
     ·rintro b a w' ⟨v559,adz_v559,v563,adz_v563,m4_,m11_,ha,Q_BK556,Q_BK557,Q_HB,Q_HO560,Q_HA_HO560,Q_HO564,Q_HA_HO564,Q_BK557_e15,Q_X4_,Q_X11_⟩ hb_ hon hoff
      refine ⟨_,rfl,fun K hK => ?_⟩
      have e14:a.tmps[14]? = some (v563):=by rw [ha]; exact putSel_on (e:=(9,14,v563)) 6 rfl rfl (hon 9 (by kernel_rfl)) rfl
      have e15:a.tmps[15]? = some (.int .i64 a1):=by rw [ha]; exact (putSel_off rfl).trans rfl
      replace ha:=am_ ha
      have BK556:=am_ Q_BK556
      have BK557:=am_ (Q_BK557 (hoff 15 (by kernel_rfl)))
      have HB:=am_ Q_HB
      have HO564:=am_ (Q_HO564 (hon 9 (by kernel_rfl)))
      have HA_HO564:=am_ (Q_HA_HO564 (hon 9 (by kernel_rfl)))
      obtain ⟨c_,hv_⟩:=HA_HO564.out
      rw [hv_] at e14
      refine value_ (w1:=w') (v:=.pointer (some (adz_v563.add (a1).toNat))) (by rfl) rfl ?_ ?_
      ·go_simp
       (try simp only [i64_w])
       try rfl
      refine hK.out _ _ ⟨v559,adz_v559,v563,adz_v563,m4_,(.pointer (some (adz_v563.add (a1).toNat))),(by rw [ha.out]; exact putSel_upk 7 hb_ rfl rfl rfl),Q_BK556,Q_BK557,Q_HB,Q_HO560,Q_HA_HO560,Q_HO564,Q_HA_HO564,fun h0_ => absurd ((hoff 15 (by kernel_rfl)).symm.trans h0_) (by decide),Q_X4_,fun _ => rfl⟩
     refine steps_cons ?_ ?_
     ·rintro b a w' ⟨v559,adz_v559,v563,adz_v563,m4_,m11_,ha,Q_BK556,Q_BK557,Q_HB,Q_HO560,Q_HA_HO560,Q_HO564,Q_HA_HO564,Q_BK557_e15,Q_X4_,Q_X11_⟩ hb_ hon hoff
      refine ⟨_,rfl,fun K hK => ?_⟩
      have e16:a.tmps[16]? = some (m11_):=by rw [ha]; exact putSel_on (e:=(11,16,m11_)) 7 rfl rfl (hon 11 (by kernel_rfl)) rfl
      rw [Q_X11_ (hon 11 (by kernel_rfl))] at e16
      replace ha:=am_ ha
      have BK556:=am_ Q_BK556
      have BK557:=am_ (Q_BK557 (hoff 15 (by kernel_rfl)))
      have HB:=am_ Q_HB
      have HO564:=am_ (Q_HO564 (hon 9 (by kernel_rfl)))
      have HA_HO564:=am_ (Q_HA_HO564 (hon 9 (by kernel_rfl)))
      obtain ⟨c_,hv_⟩:=HA_HO564.out
      have hF_:=HO564.out
      rw [hv_] at hF_
      obtain ⟨ad_,ea_,hx_⟩:=Kd.at_int (Kd.R_reads' hF_).2.2 a1 (of_eq_true pi565) (of_eq_true qi565)
      cases ea_
      refine value_ (w1:=w') (v:=.int .i64 (rd y562 a1)) (by rfl) rfl ?_ ?_
      ·go_simp
       (try simp only [i64_w])
       try rfl
      refine hK.out _ _ ⟨v559,adz_v559,v563,adz_v563,m4_,m11_,(by rw [ha.out]; exact putSel_upk 8 hb_ rfl rfl rfl),Q_BK556,Q_BK557,Q_HB,Q_HO560,Q_HA_HO560,Q_HO564,Q_HA_HO564,fun h0_ => absurd ((hoff 15 (by kernel_rfl)).symm.trans h0_) (by decide),Q_X4_,Q_X11_⟩
     refine steps_cons ?_ ?_
     ·rintro b a w' ⟨v559,adz_v559,v563,adz_v563,m4_,m11_,ha,Q_BK556,Q_BK557,Q_HB,Q_HO560,Q_HA_HO560,Q_HO564,Q_HA_HO564,Q_BK557_e15,Q_X4_,Q_X11_⟩ hb_ hon hoff
      refine ⟨_,rfl,fun K hK => ?_⟩
      have e13:a.tmps[13]? = some (.int .i64 a0_1):=by rw [ha]; exact putSel_on (e:=(8,13,.int .i64 a0_1)) 5 rfl rfl (hon 8 (by kernel_rfl)) rfl
      have e17:a.tmps[17]? = some (.int .i64 (rd y562 a1)):=by rw [ha]; exact putSel_on (e:=(12,17,.int .i64 (rd y562 a1))) 8 rfl rfl (hon 12 (by kernel_rfl)) rfl
      replace ha:=am_ ha
      have BK556:=am_ Q_BK556
      have BK557:=am_ (Q_BK557 (hoff 15 (by kernel_rfl)))
      have HB:=am_ Q_HB
      have HO564:=am_ (Q_HO564 (hon 9 (by kernel_rfl)))
      have HA_HO564:=am_ (Q_HA_HO564 (hon 9 (by kernel_rfl)))
      refine value_ (w1:=w') (v:=.int .i64 (wrap64 (a0_1 + (rd y562 a1)))) (by rfl) rfl ?_ ?_
      ·go_simp
       (try simp only [i64_w])
       try rfl
      refine hK.out _ _ ⟨v559,adz_v559,v563,adz_v563,m4_,m11_,(by rw [ha.out]; exact putSel_upk 9 hb_ rfl rfl rfl),Q_BK556,Q_BK557,Q_HB,Q_HO560,Q_HA_HO560,Q_HO564,Q_HA_HO564,fun h0_ => absurd ((hoff 15 (by kernel_rfl)).symm.trans h0_) (by decide),Q_X4_,Q_X11_⟩
     refine steps_cons ?_ ?_
     ·rintro b a w' ⟨v559,adz_v559,v563,adz_v563,m4_,m11_,ha,Q_BK556,Q_BK557,Q_HB,Q_HO560,Q_HA_HO560,Q_HO564,Q_HA_HO564,Q_BK557_e15,Q_X4_,Q_X11_⟩ hb_ hon hoff
      refine ⟨_,rfl,fun K hK => ?_⟩
      have e11:a.tmps[11]? = some (.int .i64 (wrap64 (a0_0 + (rd y558 a1)))):=by rw [ha]; exact putSel_on (e:=(6,11,.int .i64 (wrap64 (a0_0 + (rd y558 a1))))) 4 rfl rfl (hon 6 (by kernel_rfl)) rfl
      have e18:a.tmps[18]? = some (.int .i64 (wrap64 (a0_1 + (rd y562 a1)))):=by rw [ha]; exact putSel_on (e:=(13,18,.int .i64 (wrap64 (a0_1 + (rd y562 a1))))) 9 rfl rfl (hon 13 (by kernel_rfl)) rfl
      replace ha:=am_ ha
      have BK556:=am_ Q_BK556
      have BK557:=am_ (Q_BK557 (hoff 15 (by kernel_rfl)))
      have HB:=am_ Q_HB
      have HO560:=am_ (Q_HO560 (hon 2 (by kernel_rfl)))
      have HA_HO560:=am_ (Q_HA_HO560 (hon 2 (by kernel_rfl)))
      have HO564:=am_ (Q_HO564 (hon 9 (by kernel_rfl)))
      have HA_HO564:=am_ (Q_HA_HO564 (hon 9 (by kernel_rfl)))
      refine value_ (w1:=w') (v:=.agg #[.int .i64 (wrap64 (a0_0 + (rd y558 a1))),.int .i64 (wrap64 (a0_1 + (rd y562 a1)))]) (by rfl) rfl ?_ ?_
      ·go_simp
       (try simp only [i64_w])
       try rfl
      refine hK.out _ _ ⟨v559,adz_v559,v563,adz_v563,m4_,m11_,(by rw [ha.out]; exact putSel_upk 10 hb_ rfl rfl rfl),Q_BK556,Q_BK557,Q_HB,Q_HO560,Q_HA_HO560,Q_HO564,Q_HA_HO564,fun h0_ => absurd ((hoff 15 (by kernel_rfl)).symm.trans h0_) (by decide),Q_X4_,Q_X11_⟩
     refine steps_cons ?_ ?_
     ·rintro b a w' ⟨v559,adz_v559,v563,adz_v563,m4_,m11_,ha,Q_BK556,Q_BK557,Q_HB,Q_HO560,Q_HA_HO560,Q_HO564,Q_HA_HO564,Q_BK557_e15,Q_X4_,Q_X11_⟩ hb_ hon hoff
      refine ⟨_,rfl,fun K hK => ?_⟩
      have e4:a.tmps[4]? = some (.pointer (some ⟨gb557,0,none⟩)):=by rw [ha]; exact (putSel_off rfl).trans rfl
      have e19:a.tmps[19]? = some (.agg #[.int .i64 (wrap64 (a0_0 + (rd y558 a1))),.int .i64 (wrap64 (a0_1 + (rd y562 a1)))]):=by rw [ha]; exact putSel_on (e:=(14,19,.agg #[.int .i64 (wrap64 (a0_0 + (rd y558 a1))),.int .i64 (wrap64 (a0_1 + (rd y562 a1)))])) 10 rfl rfl (hon 14 (by kernel_rfl)) rfl
      replace ha:=am_ ha
      have BK556:=am_ Q_BK556
      have BK557:=am_ (Q_BK557 hb_)
      have HB:=am_ Q_HB
      have HO560:=am_ (Q_HO560 (hon 2 (by kernel_rfl)))
      have HA_HO560:=am_ (Q_HA_HO560 (hon 2 (by kernel_rfl)))
      have HO564:=am_ (Q_HO564 (hon 9 (by kernel_rfl)))
      have HA_HO564:=am_ (Q_HA_HO564 (hon 9 (by kernel_rfl)))
      obtain ⟨co16,eo16⟩:=HA_HO560.out
      clear HA_HO560
      subst eo16
      obtain ⟨co17,eo17⟩:=HA_HO564.out
      clear HA_HO564
      subst eo17
      have hs18:w'.cell? ⟨gb557,0,none⟩ = some (.int .i64 0):=(bc_ BK557.out 0).trans rfl
      have hfs18:=bz_ BK557.out 0
      have hns18_0:=NB556_557.out
      have hms18_0:=NB557_556.out
      have hs19:w'.cell? ⟨gb557,1,none⟩ = some (.int .i64 0):=(bc_ BK557.out 1).trans rfl
      have hfs19:=bz_ BK557.out 1
      have hns19_0:=NB556_557.out
      have hms19_0:=NB557_556.out
      refine skip_ (w1:=?_) (by rfl) rfl ?_ ?_
      rotate_left
      ·go_simp
       rfl
      refine hK.out _ _ ⟨.slice (some adz_v559) y558.length co16,adz_v559,.slice (some adz_v563) y562.length co17,adz_v563,m4_,m11_,(by rw [ha.out]; exact putSel_none (v:=undef) rfl),(bf2_ NB556_557.out NB556_557.out BK556.out),fun h0_ => absurd ((up_self b 15).symm.trans h0_) (by decide),(bl2_ HB.out GE556.out GE557.out),fun _ => (by (with_reducible repeat (first | apply Kd.R_alloc | apply Kd.R_drewN | apply Kd.R_drew)); exact Kd.R_mono (Kd.R_far (p:=⟨gb557,1,none⟩) (Kd.R_far (p:=⟨gb557,0,none⟩) (Kd.R_types HO560.out BK557.out (by decide)) (fun _ hk => hk.2) (.int .i64 (wrap64 (a0_0 + (rd y558 a1))))) (fun _ hk => hk.2) (.int .i64 (wrap64 (a0_1 + (rd y562 a1))))) (fun _ hk => hk.1)),fun _ => ⟨_,rfl⟩,fun _ => (by (with_reducible repeat (first | apply Kd.R_alloc | apply Kd.R_drewN | apply Kd.R_drew)); exact Kd.R_mono (Kd.R_far (p:=⟨gb557,1,none⟩) (Kd.R_far (p:=⟨gb557,0,none⟩) (Kd.R_types HO564.out BK557.out (by decide)) (fun _ hk => hk.2) (.int .i64 (wrap64 (a0_0 + (rd y558 a1))))) (fun _ hk => hk.2) (.int .i64 (wrap64 (a0_1 + (rd y562 a1))))) (fun _ hk => hk.1)),fun _ => ⟨_,rfl⟩,fun _ => (by (with_reducible repeat (first | refine blk_drewN ?_ _ | refine blk_drew ?_ | refine blk_alloc ?_ _)); refine blk_put (cs:=#[.int .i64 (wrap64 (a0_0 + (rd y558 a1))),.int .i64 0]) ?_ 1 _ rfl; (with_reducible repeat (first | refine blk_drewN ?_ _ | refine blk_drew ?_ | refine blk_alloc ?_ _)); refine blk_put (cs:=#[.int .i64 0,.int .i64 0]) ?_ 0 _ rfl; (with_reducible repeat (first | refine blk_drewN ?_ _ | refine blk_drew ?_ | refine blk_alloc ?_ _)); exact BK557.out),Q_X4_,Q_X11_⟩
     exact steps_nil
    rintro b a w17 hall ⟨v559,adz_v559,v563,adz_v563,m4_,m11_,ha,Q_BK556,Q_BK557,Q_HB,Q_HO560,Q_HA_HO560,Q_HO564,Q_HA_HO564,Q_BK557_e15,Q_X4_,Q_X11_⟩
    clear BK556 BK557 HB
    have hb1_:=hall 1 (by kernel_rfl)
    have hb2_:=hall 2 (by kernel_rfl)
    have hb4_:=hall 4 (by kernel_rfl)
    have hb5_:=hall 5 (by kernel_rfl)
    have hb6_:=hall 6 (by kernel_rfl)
    have hb8_:=hall 8 (by kernel_rfl)
    have hb9_:=hall 9 (by kernel_rfl)
    have hb11_:=hall 11 (by kernel_rfl)
    have hb12_:=hall 12 (by kernel_rfl)
    have hb13_:=hall 13 (by kernel_rfl)
    have hb14_:=hall 14 (by kernel_rfl)
    have hb15_:=hall 15 (by kernel_rfl)
    subst ha
    obtain rfl:=Q_X4_ hb4_
    obtain rfl:=Q_X11_ hb11_
    simp only [putSel,hb1_,hb2_,hb4_,hb5_,hb6_,hb8_,hb9_,hb11_,hb12_,hb13_,hb14_,hb15_,if_true,Act.put,List.setIfInBounds_toArray,List.set_cons_zero,List.set_cons_succ]
    have BK556:=am_ Q_BK556
    clear Q_BK556
    clear Q_BK557
    have HB:=am_ Q_HB
    clear Q_HB
    have HO560:=am_ (Q_HO560 hb2_)
    clear Q_HO560
    have HA_HO560:=am_ (Q_HA_HO560 hb2_)
    clear Q_HA_HO560
    have HO564:=am_ (Q_HO564 hb9_)
    clear Q_HO564
    have HA_HO564:=am_ (Q_HA_HO564 hb9_)
    clear Q_HA_HO564
    have BK557:=am_ (Q_BK557_e15 hb15_)
    clear Q_BK557_e15
    clear hall hb1_ hb2_ hb4_ hb5_ hb6_ hb8_ hb9_ hb11_ hb12_ hb13_ hb14_ hb15_
    obtain ⟨co18,eo18⟩:=HA_HO560.out
    clear HA_HO560
    subst eo18
    obtain ⟨co19,eo19⟩:=HA_HO564.out
    clear HA_HO564
    subst eo19
    try go_wp2
    refine bodyPost_ret (results_cell_row rfl _ _ gb557 84 #[.int .i64 (wrap64 (a0_0 + (rd y558 a1))),.int .i64 (wrap64 (a0_1 + (rd y562 a1)))] (0,0) _ rfl (bk_ BK557.out) Tryd.underlying84 rfl (by kernel_rfl)) rfl ?_
    exact ⟨er_,bl2_ HB.out GE556.out GE557.out⟩
   ·rw [if_neg c5] at H
    exact absurd H (by simp)
  ·rw [if_neg c4] at H
   exact absurd H (by simp)
 ·rw [if_neg c3] at H
  exact absurd H (by simp)

end Go.Proofs.YtehjfaddhmdicaaDoor.P
namespace Go.Proofs.YtehjfaddhmdicaaDoor.P
open Go.RowKit Go.Proofs.YtehjfaddhmdicaaDoorW.PrintWords Go.Proofs.YtehjfaddhmdicaaDoorW.PrintLast Go.Proofs.YtehjfaddhmdicaaDoorW.PrintMore
attribute [local go_sem] max2_int min2_int max_two min_two max_three min_three max_four min_four   -- for this text's walks alone
set_option linter.unusedVariables false
set_option linter.unusedSimpArgs false

attribute [local go_sem high] eqA84
def spec_loCorners.l0:Nat → ByteArray → List (S84) → Int → Int → Int → Option ((List (S84)) × Bool)
 | 0,_,_,_,_,_ => none
 | k + 1,x0,x4,x6,x568000,x568001 => if x6 < (x0.size:Int) then (if 0 ≤ x6 then ((spec_loDir.f k (bt x0 x6)).bind fun t568 => (if t568 < 0 then (some (([]:List (S84)),false)) else ((spec_liHas.f k x4 x568000 x568001).bind fun t569 => (if t569 = true then (some (([]:List (S84)),false)) else (if x4.length < 8796093022208 then ((spec_loStep.f x568000 x568001 t568).bind fun bt573 => (spec_loCorners.l0 k x0 (x4 ++ [(⟨x568000,x568001⟩:S84)]) (wrap64 (x6 + 1)) bt573.1 bt573.2)) else (none)))))) else (none)) else (some (x4,(x568000 == 0 && (x568001 == 0))))
def spec_loCorners.f (k:Nat) (a0:ByteArray):Option ((List (S84)) × Bool):=(spec_l1In.f (a0.size:Int) 4 40).bind fun t566 => (if t566 = true then (spec_loCorners.l0 k a0 ([]:List (S84)) 0 0 0) else (some (([]:List (S84)),false)))
theorem spec_loCorners.mono_l:∀ k,(∀ y0 y1 y2 y3 y4,LeO (spec_loCorners.l0 k y0 y1 y2 y3 y4) (spec_loCorners.l0 (k + 1) y0 y1 y2 y3 y4))
 | 0 => fun _ _ _ _ _ r h => by simp [spec_loCorners.l0] at h
 | k + 1 => by
  have ih0:=spec_loCorners.mono_l k
  ·intro y0 y1 y2 y3 y4
   unfold spec_loCorners.l0
   repeat' first | (with_reducible first | exact ih0 _ _ _ _ _ | exact spec_liHas.mono _ _ _ _ | exact spec_loDir.mono _ _ | exact LeO.refl _ | exact LeO.none _ | refine LeO.ite ?_ ?_ | refine LeO.bind ?_ (fun _ => ?_)) | exact ih0 _ _ _ _ _ | exact spec_liHas.mono _ _ _ _ | exact spec_loDir.mono _ _
theorem spec_loCorners.mono:∀ a0 k,LeO (spec_loCorners.f k a0) (spec_loCorners.f (k + 1) a0):=by
 intro a0 k
 have ih0:=spec_loCorners.mono_l k
 unfold spec_loCorners.f
 repeat' first | (with_reducible first | exact ih0 _ _ _ _ _ | exact spec_liHas.mono _ _ _ _ | exact spec_loDir.mono _ _ | exact LeO.refl _ | exact LeO.none _ | refine LeO.ite ?_ ?_ | refine LeO.bind ?_ (fun _ => ?_)) | exact ih0 _ _ _ _ _ | exact spec_liHas.mono _ _ _ _ | exact spec_loDir.mono _ _
set_option maxHeartbeats 8000000 in
set_option maxRecDepth 100000 in
theorem spec_loCorners.calls (k:Nat) (a0:ByteArray) (r1:List (S84)) (r2:Bool) (w:World) (h:spec_loCorners.f k a0 = some (r1,r2)) :
  Calls Tryd.prog 61 #[.string a0] w fun e w' => ∃ v0_:Value,e = .returned (.tuple #[v0_,.bool r2]) ∧ Kd.R k84 84 w' w.heap.size (fun _ => True) v0_ r1 ∧ Below w.heap.size w w':=by
 have hu84:=Tryd.underlying84
 have HB:=am_ (Below.refl w.heap.size w)
 have H:((spec_l1In.f (a0.size:Int) 4 40).bind fun t566 => (if t566 = true then (spec_loCorners.l0 k a0 ([]:List (S84)) 0 0 0) else (some (([]:List (S84)),false)))) = some (r1,r2):=h
 clear h
 replace H:=bi_ H
 obtain ⟨t566,A20,H⟩:=H
 replace H:(if t566 = true then (spec_loCorners.l0 k a0 ([]:List (S84)) 0 0 0) else (some (([]:List (S84)),false))) = some (r1,r2):=H
 have A2:=am_ A20
 clear A20
 by_cases c3:t566 = true
 ·subst c3
  have H1:(spec_loCorners.l0 k a0 ([]:List (S84)) 0 0 0) = some (r1,r2):=by rw [if_pos rfl] at H; exact H
  clear H
  have H:=H1
  clear H1
  have H':=am_ H
  clear H
  go_enter Tryd.func61,Tryd.ntmps61
  go_wp2_with (first | (go_at_call 75; (with_reducible refine (spec_l1In.calls (a0.size:Int) 4 40 true _ A2.out).mono ?_); rintro e w' ⟨rfl,⟨nd,rfl⟩⟩; (try first | exact ⟨rfl,_,World.drewN_drewN _ _ _⟩ | exact ⟨rfl,_,Eq.trans (World.drewN_drewN _ _ _) (congrArg (World.drewN _) (Nat.add_assoc _ _ _))⟩)) | ((with_reducible refine gate_dst (N:=5) rfl ?_); refine boxE_ (N:=5) (cs:=#[.int .i64 0,.int .i64 0]) (t:=84) ?_; intro gb567 hg w4 hbox hb; have n0_:=am_ (below_step (bl0_ HB.out) hb); have n1_:=am_ (hbox); have n2_:=am_ ((bs0_ hg HB.out:w.heap.size ≤ gb567)); have n3_:=am_ ((bs0_ hg HB.out:w.heap.size ≤ gb567)); clear HB; have HB:=n0_; have BK567:=n1_; have GW567:=n2_; have GE567:=n3_; clear n0_ n1_ n2_ n3_; clear hb hbox hg; have hcz5_0:w4.cell? ⟨gb567,0,none⟩ = some (.int .i64 0):=(bc_ BK567.out 0).trans rfl; have hcz5_1:w4.cell? ⟨gb567,1,none⟩ = some (.int .i64 0):=(bc_ BK567.out 1).trans rfl; have hfz5_0:=bz_ BK567.out 0; have hfz5_1:=bz_ BK567.out 1))
  repeat (go_quiet (first | (go_at_call 75; (with_reducible refine (spec_l1In.calls (a0.size:Int) 4 40 true _ A2.out).mono ?_); rintro e w' ⟨rfl,⟨nd,rfl⟩⟩; (try first | exact ⟨rfl,_,World.drewN_drewN _ _ _⟩ | exact ⟨rfl,_,Eq.trans (World.drewN_drewN _ _ _) (congrArg (World.drewN _) (Nat.add_assoc _ _ _))⟩)) | ((with_reducible refine gate_dst (N:=5) rfl ?_); refine boxE_ (N:=5) (cs:=#[.int .i64 0,.int .i64 0]) (t:=84) ?_; intro gb567 hg w4 hbox hb; have n0_:=am_ (below_step (bl0_ HB.out) hb); have n1_:=am_ (hbox); have n2_:=am_ ((bs0_ hg HB.out:w.heap.size ≤ gb567)); have n3_:=am_ ((bs0_ hg HB.out:w.heap.size ≤ gb567)); clear HB; have HB:=n0_; have BK567:=n1_; have GW567:=n2_; have GE567:=n3_; clear n0_ n1_ n2_ n3_; clear hb hbox hg; have hcz5_0:w4.cell? ⟨gb567,0,none⟩ = some (.int .i64 0):=(bc_ BK567.out 0).trans rfl; have hcz5_1:w4.cell? ⟨gb567,1,none⟩ = some (.int .i64 0):=(bc_ BK567.out 1).trans rfl; have hfz5_0:=bz_ BK567.out 0; have hfz5_1:=bz_ BK567.out 1)); try go_wp2_with (first | (go_at_call 75; (with_reducible refine (spec_l1In.calls (a0.size:Int) 4 40 true _ A2.out).mono ?_); rintro e w' ⟨rfl,⟨nd,rfl⟩⟩; (try first | exact ⟨rfl,_,World.drewN_drewN _ _ _⟩ | exact ⟨rfl,_,Eq.trans (World.drewN_drewN _ _ _) (congrArg (World.drewN _) (Nat.add_assoc _ _ _))⟩)) | ((with_reducible refine gate_dst (N:=5) rfl ?_); refine boxE_ (N:=5) (cs:=#[.int .i64 0,.int .i64 0]) (t:=84) ?_; intro gb567 hg w4 hbox hb; have n0_:=am_ (below_step (bl0_ HB.out) hb); have n1_:=am_ (hbox); have n2_:=am_ ((bs0_ hg HB.out:w.heap.size ≤ gb567)); have n3_:=am_ ((bs0_ hg HB.out:w.heap.size ≤ gb567)); clear HB; have HB:=n0_; have BK567:=n1_; have GW567:=n2_; have GE567:=n3_; clear n0_ n1_ n2_ n3_; clear hb hbox hg; have hcz5_0:w4.cell? ⟨gb567,0,none⟩ = some (.int .i64 0):=(bc_ BK567.out 0).trans rfl; have hcz5_1:w4.cell? ⟨gb567,1,none⟩ = some (.int .i64 0):=(bc_ BK567.out 1).trans rfl; have hfz5_0:=bz_ BK567.out 0; have hfz5_1:=bz_ BK567.out 1)))
  go_loopg [4,6] k (fun kq v4 v6 w' => ∃ (x4_1:List (S84)) (x6_1:Int) (x568000_1:Int) (x568001_1:Int),v6 = .int .i64 x6_1 ∧ Aside0 (spec_loCorners.l0 kq a0 x4_1 x6_1 x568000_1 x568001_1 = some (r1,r2)) ∧ Aside0 (kq ≤ k) ∧ Aside0 (Kd.R k84 84 w' w.heap.size (fun k_ => k_ ≠ gb567) v4 x4_1) ∧ Aside0 (w'.heap[gb567]? = some (.cells #[.int .i64 x568000_1,.int .i64 x568001_1] 84 (0,0))) ∧ Aside0 (Below w.heap.size w w'))
  case atStart => exact ⟨(([]:List (S84))),(0),(0),(0),rs_,H',⟨Nat.le_refl _⟩,⟨by first | exact Kd.R_nil _ _ _ _ _ | exact Kd.N_nil _ _ _ _ _ | exact Kd.V_nil _ _ _ _ _ | exact Kd.Q_nil _ _ _ _ _ | exact Kd.S_nil _ _ _ _ _⟩,⟨by (with_reducible repeat (first | refine blk_drewN ?_ _ | refine blk_drew ?_ | refine blk_alloc ?_ _)); refine blk_put (cs:=#[.int .i64 0,.int .i64 0]) ?_ 1 _ rfl; (with_reducible repeat (first | refine blk_drewN ?_ _ | refine blk_drew ?_ | refine blk_alloc ?_ _)); refine blk_put (cs:=#[.int .i64 0,.int .i64 0]) ?_ 0 _ rfl; (with_reducible repeat (first | refine blk_drewN ?_ _ | refine blk_drew ?_ | refine blk_alloc ?_ _)); exact BK567.out⟩,⟨bl1_ HB.out GE567.out⟩⟩
  case round =>
   clear H'
   try clear p2
   try clear c3
   try clear hcz5_0
   try clear hcz5_1
   try clear hfz5_0
   try clear hfz5_1
   obtain ⟨x4_1,x6_1,x568000_1,x568001_1,rfl,HA,HK1,HO_4,BK567,HB⟩:=hrel
   cases gk with
   | zero => exact absurd HA.out (by simp [spec_loCorners.l0])
   | succ k1 =>
    have H:=HA.out
    clear HA
    simp only [spec_loCorners.l0] at H
    by_cases c6:x6_1 < (a0.size:Int)
    ·rw [if_pos c6] at H
     have c6b0:decide (x6_1 < (a0.size:Int)) = true:=decide_eq_true c6
     clear c6
     by_cases c7:0 ≤ x6_1
     ·rw [if_pos c7] at H
      have c7b0:decide (0 ≤ x6_1) = true:=decide_eq_true c7
      clear c7
      replace H:=bi_ H
      obtain ⟨t568,A90,H⟩:=H
      replace H:(if t568 < 0 then (some (([]:List (S84)),false)) else ((spec_liHas.f k1 x4_1 x568000_1 x568001_1).bind fun t569 => (if t569 = true then (some (([]:List (S84)),false)) else (if x4_1.length < 8796093022208 then ((spec_loStep.f x568000_1 x568001_1 t568).bind fun bt573 => (spec_loCorners.l0 k1 a0 (x4_1 ++ [(⟨x568000_1,x568001_1⟩:S84)]) (wrap64 (x6_1 + 1)) bt573.1 bt573.2)) else (none))))) = some (r1,r2):=H
      have A9:=am_ A90
      clear A90
      by_cases c10:t568 < 0
      ·rw [if_pos c10] at H
       have c10b0:decide (t568 < 0) = true:=decide_eq_true c10
       clear c10
       simp only [Option.some.injEq,Prod.mk.injEq] at H
       obtain ⟨rfl,rfl⟩:=H
       have p8:0 ≤ (x6_1:Int):=of_decide_eq_true as_
       have q8:x6_1 < (a0.size:Int):=of_decide_eq_true as_
       have hx8:=bt_at a0 x6_1
       replace p8:=eq_true p8
       replace q8:=eq_true q8
       go_wp2_with (first | (go_at_call 106; (with_reducible refine (spec_loDir.calls k1 (bt a0 x6_1) t568 _ A9.out).mono ?_); rintro e w' ⟨rfl,⟨nd,rfl⟩⟩; (try first | exact ⟨rfl,_,World.drewN_drewN _ _ _⟩ | exact ⟨rfl,_,Eq.trans (World.drewN_drewN _ _ _) (congrArg (World.drewN _) (Nat.add_assoc _ _ _))⟩)))
       repeat (go_quiet (first | (go_at_call 106; (with_reducible refine (spec_loDir.calls k1 (bt a0 x6_1) t568 _ A9.out).mono ?_); rintro e w' ⟨rfl,⟨nd,rfl⟩⟩; (try first | exact ⟨rfl,_,World.drewN_drewN _ _ _⟩ | exact ⟨rfl,_,Eq.trans (World.drewN_drewN _ _ _) (congrArg (World.drewN _) (Nat.add_assoc _ _ _))⟩))); try go_wp2_with (first | (go_at_call 106; (with_reducible refine (spec_loDir.calls k1 (bt a0 x6_1) t568 _ A9.out).mono ?_); rintro e w' ⟨rfl,⟨nd,rfl⟩⟩; (try first | exact ⟨rfl,_,World.drewN_drewN _ _ _⟩ | exact ⟨rfl,_,Eq.trans (World.drewN_drewN _ _ _) (congrArg (World.drewN _) (Nat.add_assoc _ _ _))⟩))))
       go_ret2
       exact ⟨_,er_,by first | exact Kd.R_nil _ _ _ _ _ | exact Kd.N_nil _ _ _ _ _ | exact Kd.V_nil _ _ _ _ _ | exact Kd.Q_nil _ _ _ _ _ | exact Kd.S_nil _ _ _ _ _,bl1_ HB.out GE567.out⟩
      ·rw [if_neg c10] at H
       have c10b0:decide (t568 < 0) = false:=decide_eq_false c10
       clear c10
       replace H:=bi_ H
       obtain ⟨t569,A110,H⟩:=H
       replace H:(if t569 = true then (some (([]:List (S84)),false)) else (if x4_1.length < 8796093022208 then ((spec_loStep.f x568000_1 x568001_1 t568).bind fun bt573 => (spec_loCorners.l0 k1 a0 (x4_1 ++ [(⟨x568000_1,x568001_1⟩:S84)]) (wrap64 (x6_1 + 1)) bt573.1 bt573.2)) else (none))) = some (r1,r2):=H
       have A11:=am_ A110
       clear A110
       by_cases c12:t569 = true
       ·subst c12
        have H1:(some (([]:List (S84)),false)) = some (r1,r2):=by rw [if_pos rfl] at H; exact H
        clear H
        have H:=H1
        clear H1
        simp only [Option.some.injEq,Prod.mk.injEq] at H
        obtain ⟨rfl,rfl⟩:=H
        have p8:0 ≤ (x6_1:Int):=of_decide_eq_true as_
        have q8:x6_1 < (a0.size:Int):=of_decide_eq_true as_
        have hx8:=bt_at a0 x6_1
        replace p8:=eq_true p8
        replace q8:=eq_true q8
        go_wp2_with (first | (go_at_call 106; (with_reducible refine (spec_loDir.calls k1 (bt a0 x6_1) t568 _ A9.out).mono ?_); rintro e w' ⟨rfl,⟨nd,rfl⟩⟩; (try first | exact ⟨rfl,_,World.drewN_drewN _ _ _⟩ | exact ⟨rfl,_,Eq.trans (World.drewN_drewN _ _ _) (congrArg (World.drewN _) (Nat.add_assoc _ _ _))⟩); have hcz13_0:wr.cell? ⟨gb567,0,none⟩ = some (.int .i64 x568000_1):=(bc_ BK567.out 0).trans rfl; have hcz13_1:wr.cell? ⟨gb567,1,none⟩ = some (.int .i64 x568001_1):=(bc_ BK567.out 1).trans rfl; have hfz13_0:=bz_ BK567.out 0; have hfz13_1:=bz_ BK567.out 1; obtain ⟨Ao14,co14,eo14⟩:=Kd.R_slice HO_4.out; subst eo14) | (go_at_call 107; (with_reducible refine (spec_liHas.calls k1 _ _ x4_1 x568000_1 x568001_1 true _ ?side1 ?side2 A11.out).mono ?_); (case side1 => repeat (first | exact (Kd.R_reads' HO_4.out).2.2 | (with_reducible refine Kd.C_alloc ?_ _) | (with_reducible refine Kd.C_drewN ?_ _) | (with_reducible refine Kd.C_drew ?_))); (case side2 => exact (Kd.R_reads' HO_4.out).2.1); rintro e w15 ⟨rfl,hb⟩; have n0_:=am_ (Kd.R_below (kr_ HO_4.out) hb); have n1_:=am_ (bb_ BK567.out hb); have n2_:=am_ (below_step (bl1_ HB.out GE567.out) hb); clear HO_4; clear BK567; clear HB; have HO_4:=n0_; have BK567:=n1_; have HB:=n2_; clear n0_ n1_ n2_; (try clear hb); (try clear hb2); (try clear hk); (try clear hi)))
        repeat (go_quiet (first | (go_at_call 106; (with_reducible refine (spec_loDir.calls k1 (bt a0 x6_1) t568 _ A9.out).mono ?_); rintro e w' ⟨rfl,⟨nd,rfl⟩⟩; (try first | exact ⟨rfl,_,World.drewN_drewN _ _ _⟩ | exact ⟨rfl,_,Eq.trans (World.drewN_drewN _ _ _) (congrArg (World.drewN _) (Nat.add_assoc _ _ _))⟩); have hcz13_0:wr.cell? ⟨gb567,0,none⟩ = some (.int .i64 x568000_1):=(bc_ BK567.out 0).trans rfl; have hcz13_1:wr.cell? ⟨gb567,1,none⟩ = some (.int .i64 x568001_1):=(bc_ BK567.out 1).trans rfl; have hfz13_0:=bz_ BK567.out 0; have hfz13_1:=bz_ BK567.out 1; obtain ⟨Ao14,co14,eo14⟩:=Kd.R_slice HO_4.out; subst eo14) | (go_at_call 107; (with_reducible refine (spec_liHas.calls k1 _ _ x4_1 x568000_1 x568001_1 true _ ?side1 ?side2 A11.out).mono ?_); (case side1 => repeat (first | exact (Kd.R_reads' HO_4.out).2.2 | (with_reducible refine Kd.C_alloc ?_ _) | (with_reducible refine Kd.C_drewN ?_ _) | (with_reducible refine Kd.C_drew ?_))); (case side2 => exact (Kd.R_reads' HO_4.out).2.1); rintro e w15 ⟨rfl,hb⟩; have n0_:=am_ (Kd.R_below (kr_ HO_4.out) hb); have n1_:=am_ (bb_ BK567.out hb); have n2_:=am_ (below_step (bl1_ HB.out GE567.out) hb); clear HO_4; clear BK567; clear HB; have HO_4:=n0_; have BK567:=n1_; have HB:=n2_; clear n0_ n1_ n2_; (try clear hb); (try clear hb2); (try clear hk); (try clear hi))); try go_wp2_with (first | (go_at_call 106; (with_reducible refine (spec_loDir.calls k1 (bt a0 x6_1) t568 _ A9.out).mono ?_); rintro e w' ⟨rfl,⟨nd,rfl⟩⟩; (try first | exact ⟨rfl,_,World.drewN_drewN _ _ _⟩ | exact ⟨rfl,_,Eq.trans (World.drewN_drewN _ _ _) (congrArg (World.drewN _) (Nat.add_assoc _ _ _))⟩); have hcz13_0:wr.cell? ⟨gb567,0,none⟩ = some (.int .i64 x568000_1):=(bc_ BK567.out 0).trans rfl; have hcz13_1:wr.cell? ⟨gb567,1,none⟩ = some (.int .i64 x568001_1):=(bc_ BK567.out 1).trans rfl; have hfz13_0:=bz_ BK567.out 0; have hfz13_1:=bz_ BK567.out 1; obtain ⟨Ao14,co14,eo14⟩:=Kd.R_slice HO_4.out; subst eo14) | (go_at_call 107; (with_reducible refine (spec_liHas.calls k1 _ _ x4_1 x568000_1 x568001_1 true _ ?side1 ?side2 A11.out).mono ?_); (case side1 => repeat (first | exact (Kd.R_reads' HO_4.out).2.2 | (with_reducible refine Kd.C_alloc ?_ _) | (with_reducible refine Kd.C_drewN ?_ _) | (with_reducible refine Kd.C_drew ?_))); (case side2 => exact (Kd.R_reads' HO_4.out).2.1); rintro e w15 ⟨rfl,hb⟩; have n0_:=am_ (Kd.R_below (kr_ HO_4.out) hb); have n1_:=am_ (bb_ BK567.out hb); have n2_:=am_ (below_step (bl1_ HB.out GE567.out) hb); clear HO_4; clear BK567; clear HB; have HO_4:=n0_; have BK567:=n1_; have HB:=n2_; clear n0_ n1_ n2_; (try clear hb); (try clear hb2); (try clear hk); (try clear hi))))
        go_ret2
        exact ⟨_,er_,by first | exact Kd.R_nil _ _ _ _ _ | exact Kd.N_nil _ _ _ _ _ | exact Kd.V_nil _ _ _ _ _ | exact Kd.Q_nil _ _ _ _ _ | exact Kd.S_nil _ _ _ _ _,bl1_ HB.out GE567.out⟩
       ·replace c12:=Bool.eq_false_iff.mpr c12
        subst c12
        have H1:(if x4_1.length < 8796093022208 then ((spec_loStep.f x568000_1 x568001_1 t568).bind fun bt573 => (spec_loCorners.l0 k1 a0 (x4_1 ++ [(⟨x568000_1,x568001_1⟩:S84)]) (wrap64 (x6_1 + 1)) bt573.1 bt573.2)) else (none)) = some (r1,r2):=by rw [if_neg (show ¬ (false = true) by decide)] at H; exact H
        clear H
        have H:=H1
        clear H1
        by_cases c16:x4_1.length < 8796093022208
        ·rw [if_pos c16] at H
         have LMc16:=am_ c16
         clear c16
         obtain ⟨y570,hy570⟩:∃ y_:List (S84),y_ = (x4_1 ++ [(⟨x568000_1,x568001_1⟩:S84)]):=⟨_,rfl⟩
         replace H:((spec_loStep.f x568000_1 x568001_1 t568).bind fun bt573 => (spec_loCorners.l0 k1 a0 y570 (wrap64 (x6_1 + 1)) bt573.1 bt573.2)) = some (r1,r2):=by first | (rw [hy570]; with_reducible exact H) | (have H2_:=(Option.bind_some _ _).symm.trans H; rw [hy570]; with_reducible exact H2_) | (have H2_:=(Option.bind_some _ _).symm.trans H; with_reducible exact H2_) | with_reducible exact H | (rw [hy570]; exact H) | exact H
         have Ny570:=am_ hy570
         clear hy570
         replace H:=bi_ H
         obtain ⟨⟨t573,t574⟩,A170,H⟩:=H
         replace H:(spec_loCorners.l0 k1 a0 y570 (wrap64 (x6_1 + 1)) t573 t574) = some (r1,r2):=H
         have A17:=am_ A170
         clear A170
         have H':=am_ H
         clear H
         have p8:0 ≤ (x6_1:Int):=of_decide_eq_true as_
         have q8:x6_1 < (a0.size:Int):=of_decide_eq_true as_
         have hx8:=bt_at a0 x6_1
         replace p8:=eq_true p8
         replace q8:=eq_true q8
         go_wp2_with (first | (go_at_call 106; (with_reducible refine (spec_loDir.calls k1 (bt a0 x6_1) t568 _ A9.out).mono ?_); rintro e w' ⟨rfl,⟨nd,rfl⟩⟩; (try first | exact ⟨rfl,_,World.drewN_drewN _ _ _⟩ | exact ⟨rfl,_,Eq.trans (World.drewN_drewN _ _ _) (congrArg (World.drewN _) (Nat.add_assoc _ _ _))⟩); have hcz18_0:wr.cell? ⟨gb567,0,none⟩ = some (.int .i64 x568000_1):=(bc_ BK567.out 0).trans rfl; have hcz18_1:wr.cell? ⟨gb567,1,none⟩ = some (.int .i64 x568001_1):=(bc_ BK567.out 1).trans rfl; have hfz18_0:=bz_ BK567.out 0; have hfz18_1:=bz_ BK567.out 1; obtain ⟨Ao19,co19,eo19⟩:=Kd.R_slice HO_4.out; subst eo19) | (go_at_call 107; (with_reducible refine (spec_liHas.calls k1 _ _ x4_1 x568000_1 x568001_1 false _ ?side1 ?side2 A11.out).mono ?_); (case side1 => repeat (first | exact (Kd.R_reads' HO_4.out).2.2 | (with_reducible refine Kd.C_alloc ?_ _) | (with_reducible refine Kd.C_drewN ?_ _) | (with_reducible refine Kd.C_drew ?_))); (case side2 => exact (Kd.R_reads' HO_4.out).2.1); rintro e w20 ⟨rfl,hb⟩; have n0_:=am_ (Kd.R_below (kr_ HO_4.out) hb); have n1_:=am_ (bb_ BK567.out hb); have n2_:=am_ (below_step (bl1_ HB.out GE567.out) hb); clear HO_4; clear BK567; clear HB; have HO_4:=n0_; have BK567:=n1_; have HB:=n2_; clear n0_ n1_ n2_; (try clear hb); (try clear hb2); (try clear hk); (try clear hi); have hcz21_0:w20.cell? ⟨gb567,0,none⟩ = some (.int .i64 x568000_1):=(bc_ BK567.out 0).trans rfl; have hcz21_1:w20.cell? ⟨gb567,1,none⟩ = some (.int .i64 x568001_1):=(bc_ BK567.out 1).trans rfl; have hfz21_0:=bz_ BK567.out 0; have hfz21_1:=bz_ BK567.out 1) | ((with_reducible refine gate_builtin (b:=.append) (xs:=#[.tmp 30,.tmp 32]) rfl ?_); at_builtin; refine Kd.R_append k84 (w0:=w) w.heap.size rfl (.tmp 30) (.tmp 32) 80 84 (.agg #[(.int .i64 0),(.int .i64 0)]) 16 rfl Tryd.underlying80 info84 rfl (by decide) (by omega) (.slice Ao19 x4_1.length co19) x4_1 (⟨x568000_1,x568001_1⟩:S84) [.int .i64 x568000_1,.int .i64 x568001_1] (fun k_ => k_ ≠ gb567) (fun _ => False) rfl rfl ?aP (fun _ hk => hk.elim) ?aF ?aO ?aB ?aS ?aL ?_; (case aP => exact k84_mkM _ _ _ (⟨x568000_1,x568001_1⟩:S84)); (case aB => exact (bl1_ HB.out GE567.out)); (case aF => exact (fun k_ hk => Kd.freshB (g:=gb567) (o:=.cells #[.int .i64 x568000_1,.int .i64 x568001_1] 84 (0,0)) (bk_ BK567.out) k_ hk)); (case aO => exact (kr_ HO_4.out)); (case aS => exact (below_size (bl1_ HB.out GE567.out))); (case aL => have:=LMc16.out; omega); intro v571 w22 ho hb hg hat; rw [← Ny570.out] at ho; have n0_:=am_ (blk_grown (g:=gb567) (o:=.cells #[.int .i64 x568000_1,.int .i64 x568001_1] 84 (0,0)) (bk_ BK567.out) hg (Kd.R_away HO_4.out (fun _ hk => hk))); have n1_:=am_ (hb); have n2_:=am_ (ho); clear BK567; clear HB; clear HO_4; have BK567:=n0_; have HB:=n1_; have HO572:=n2_; clear n0_ n1_ n2_; clear ho hb hg hat; have hcz23_0:w22.cell? ⟨gb567,0,none⟩ = some (.int .i64 x568000_1):=(bc_ BK567.out 0).trans rfl; have hcz23_1:w22.cell? ⟨gb567,1,none⟩ = some (.int .i64 x568001_1):=(bc_ BK567.out 1).trans rfl; have hfz23_0:=bz_ BK567.out 0; have hfz23_1:=bz_ BK567.out 1) | (go_at_call 108; (with_reducible refine (spec_loStep.calls x568000_1 x568001_1 t568 t573 t574 _ A17.out).mono ?_); rintro e w24 ⟨rfl,hb⟩; have n0_:=am_ (Kd.R_below (kr_ HO572.out) hb); have n1_:=am_ (bb_ BK567.out hb); have n2_:=am_ (below_step (bl1_ HB.out GE567.out) hb); clear HO572; clear BK567; clear HB; have HO572:=n0_; have BK567:=n1_; have HB:=n2_; clear n0_ n1_ n2_; (try clear hb); (try clear hb2); (try clear hk); (try clear hi); have hcz25_0:w24.cell? ⟨gb567,0,none⟩ = some (.int .i64 x568000_1):=(bc_ BK567.out 0).trans rfl; have hcz25_1:w24.cell? ⟨gb567,1,none⟩ = some (.int .i64 x568001_1):=(bc_ BK567.out 1).trans rfl; have hfz25_0:=bz_ BK567.out 0; have hfz25_1:=bz_ BK567.out 1))
         repeat (go_quiet (first | (go_at_call 106; (with_reducible refine (spec_loDir.calls k1 (bt a0 x6_1) t568 _ A9.out).mono ?_); rintro e w' ⟨rfl,⟨nd,rfl⟩⟩; (try first | exact ⟨rfl,_,World.drewN_drewN _ _ _⟩ | exact ⟨rfl,_,Eq.trans (World.drewN_drewN _ _ _) (congrArg (World.drewN _) (Nat.add_assoc _ _ _))⟩); have hcz18_0:wr.cell? ⟨gb567,0,none⟩ = some (.int .i64 x568000_1):=(bc_ BK567.out 0).trans rfl; have hcz18_1:wr.cell? ⟨gb567,1,none⟩ = some (.int .i64 x568001_1):=(bc_ BK567.out 1).trans rfl; have hfz18_0:=bz_ BK567.out 0; have hfz18_1:=bz_ BK567.out 1; obtain ⟨Ao19,co19,eo19⟩:=Kd.R_slice HO_4.out; subst eo19) | (go_at_call 107; (with_reducible refine (spec_liHas.calls k1 _ _ x4_1 x568000_1 x568001_1 false _ ?side1 ?side2 A11.out).mono ?_); (case side1 => repeat (first | exact (Kd.R_reads' HO_4.out).2.2 | (with_reducible refine Kd.C_alloc ?_ _) | (with_reducible refine Kd.C_drewN ?_ _) | (with_reducible refine Kd.C_drew ?_))); (case side2 => exact (Kd.R_reads' HO_4.out).2.1); rintro e w20 ⟨rfl,hb⟩; have n0_:=am_ (Kd.R_below (kr_ HO_4.out) hb); have n1_:=am_ (bb_ BK567.out hb); have n2_:=am_ (below_step (bl1_ HB.out GE567.out) hb); clear HO_4; clear BK567; clear HB; have HO_4:=n0_; have BK567:=n1_; have HB:=n2_; clear n0_ n1_ n2_; (try clear hb); (try clear hb2); (try clear hk); (try clear hi); have hcz21_0:w20.cell? ⟨gb567,0,none⟩ = some (.int .i64 x568000_1):=(bc_ BK567.out 0).trans rfl; have hcz21_1:w20.cell? ⟨gb567,1,none⟩ = some (.int .i64 x568001_1):=(bc_ BK567.out 1).trans rfl; have hfz21_0:=bz_ BK567.out 0; have hfz21_1:=bz_ BK567.out 1) | ((with_reducible refine gate_builtin (b:=.append) (xs:=#[.tmp 30,.tmp 32]) rfl ?_); at_builtin; refine Kd.R_append k84 (w0:=w) w.heap.size rfl (.tmp 30) (.tmp 32) 80 84 (.agg #[(.int .i64 0),(.int .i64 0)]) 16 rfl Tryd.underlying80 info84 rfl (by decide) (by omega) (.slice Ao19 x4_1.length co19) x4_1 (⟨x568000_1,x568001_1⟩:S84) [.int .i64 x568000_1,.int .i64 x568001_1] (fun k_ => k_ ≠ gb567) (fun _ => False) rfl rfl ?aP (fun _ hk => hk.elim) ?aF ?aO ?aB ?aS ?aL ?_; (case aP => exact k84_mkM _ _ _ (⟨x568000_1,x568001_1⟩:S84)); (case aB => exact (bl1_ HB.out GE567.out)); (case aF => exact (fun k_ hk => Kd.freshB (g:=gb567) (o:=.cells #[.int .i64 x568000_1,.int .i64 x568001_1] 84 (0,0)) (bk_ BK567.out) k_ hk)); (case aO => exact (kr_ HO_4.out)); (case aS => exact (below_size (bl1_ HB.out GE567.out))); (case aL => have:=LMc16.out; omega); intro v571 w22 ho hb hg hat; rw [← Ny570.out] at ho; have n0_:=am_ (blk_grown (g:=gb567) (o:=.cells #[.int .i64 x568000_1,.int .i64 x568001_1] 84 (0,0)) (bk_ BK567.out) hg (Kd.R_away HO_4.out (fun _ hk => hk))); have n1_:=am_ (hb); have n2_:=am_ (ho); clear BK567; clear HB; clear HO_4; have BK567:=n0_; have HB:=n1_; have HO572:=n2_; clear n0_ n1_ n2_; clear ho hb hg hat; have hcz23_0:w22.cell? ⟨gb567,0,none⟩ = some (.int .i64 x568000_1):=(bc_ BK567.out 0).trans rfl; have hcz23_1:w22.cell? ⟨gb567,1,none⟩ = some (.int .i64 x568001_1):=(bc_ BK567.out 1).trans rfl; have hfz23_0:=bz_ BK567.out 0; have hfz23_1:=bz_ BK567.out 1) | (go_at_call 108; (with_reducible refine (spec_loStep.calls x568000_1 x568001_1 t568 t573 t574 _ A17.out).mono ?_); rintro e w24 ⟨rfl,hb⟩; have n0_:=am_ (Kd.R_below (kr_ HO572.out) hb); have n1_:=am_ (bb_ BK567.out hb); have n2_:=am_ (below_step (bl1_ HB.out GE567.out) hb); clear HO572; clear BK567; clear HB; have HO572:=n0_; have BK567:=n1_; have HB:=n2_; clear n0_ n1_ n2_; (try clear hb); (try clear hb2); (try clear hk); (try clear hi); have hcz25_0:w24.cell? ⟨gb567,0,none⟩ = some (.int .i64 x568000_1):=(bc_ BK567.out 0).trans rfl; have hcz25_1:w24.cell? ⟨gb567,1,none⟩ = some (.int .i64 x568001_1):=(bc_ BK567.out 1).trans rfl; have hfz25_0:=bz_ BK567.out 0; have hfz25_1:=bz_ BK567.out 1)); try go_wp2_with (first | (go_at_call 106; (with_reducible refine (spec_loDir.calls k1 (bt a0 x6_1) t568 _ A9.out).mono ?_); rintro e w' ⟨rfl,⟨nd,rfl⟩⟩; (try first | exact ⟨rfl,_,World.drewN_drewN _ _ _⟩ | exact ⟨rfl,_,Eq.trans (World.drewN_drewN _ _ _) (congrArg (World.drewN _) (Nat.add_assoc _ _ _))⟩); have hcz18_0:wr.cell? ⟨gb567,0,none⟩ = some (.int .i64 x568000_1):=(bc_ BK567.out 0).trans rfl; have hcz18_1:wr.cell? ⟨gb567,1,none⟩ = some (.int .i64 x568001_1):=(bc_ BK567.out 1).trans rfl; have hfz18_0:=bz_ BK567.out 0; have hfz18_1:=bz_ BK567.out 1; obtain ⟨Ao19,co19,eo19⟩:=Kd.R_slice HO_4.out; subst eo19) | (go_at_call 107; (with_reducible refine (spec_liHas.calls k1 _ _ x4_1 x568000_1 x568001_1 false _ ?side1 ?side2 A11.out).mono ?_); (case side1 => repeat (first | exact (Kd.R_reads' HO_4.out).2.2 | (with_reducible refine Kd.C_alloc ?_ _) | (with_reducible refine Kd.C_drewN ?_ _) | (with_reducible refine Kd.C_drew ?_))); (case side2 => exact (Kd.R_reads' HO_4.out).2.1); rintro e w20 ⟨rfl,hb⟩; have n0_:=am_ (Kd.R_below (kr_ HO_4.out) hb); have n1_:=am_ (bb_ BK567.out hb); have n2_:=am_ (below_step (bl1_ HB.out GE567.out) hb); clear HO_4; clear BK567; clear HB; have HO_4:=n0_; have BK567:=n1_; have HB:=n2_; clear n0_ n1_ n2_; (try clear hb); (try clear hb2); (try clear hk); (try clear hi); have hcz21_0:w20.cell? ⟨gb567,0,none⟩ = some (.int .i64 x568000_1):=(bc_ BK567.out 0).trans rfl; have hcz21_1:w20.cell? ⟨gb567,1,none⟩ = some (.int .i64 x568001_1):=(bc_ BK567.out 1).trans rfl; have hfz21_0:=bz_ BK567.out 0; have hfz21_1:=bz_ BK567.out 1) | ((with_reducible refine gate_builtin (b:=.append) (xs:=#[.tmp 30,.tmp 32]) rfl ?_); at_builtin; refine Kd.R_append k84 (w0:=w) w.heap.size rfl (.tmp 30) (.tmp 32) 80 84 (.agg #[(.int .i64 0),(.int .i64 0)]) 16 rfl Tryd.underlying80 info84 rfl (by decide) (by omega) (.slice Ao19 x4_1.length co19) x4_1 (⟨x568000_1,x568001_1⟩:S84) [.int .i64 x568000_1,.int .i64 x568001_1] (fun k_ => k_ ≠ gb567) (fun _ => False) rfl rfl ?aP (fun _ hk => hk.elim) ?aF ?aO ?aB ?aS ?aL ?_; (case aP => exact k84_mkM _ _ _ (⟨x568000_1,x568001_1⟩:S84)); (case aB => exact (bl1_ HB.out GE567.out)); (case aF => exact (fun k_ hk => Kd.freshB (g:=gb567) (o:=.cells #[.int .i64 x568000_1,.int .i64 x568001_1] 84 (0,0)) (bk_ BK567.out) k_ hk)); (case aO => exact (kr_ HO_4.out)); (case aS => exact (below_size (bl1_ HB.out GE567.out))); (case aL => have:=LMc16.out; omega); intro v571 w22 ho hb hg hat; rw [← Ny570.out] at ho; have n0_:=am_ (blk_grown (g:=gb567) (o:=.cells #[.int .i64 x568000_1,.int .i64 x568001_1] 84 (0,0)) (bk_ BK567.out) hg (Kd.R_away HO_4.out (fun _ hk => hk))); have n1_:=am_ (hb); have n2_:=am_ (ho); clear BK567; clear HB; clear HO_4; have BK567:=n0_; have HB:=n1_; have HO572:=n2_; clear n0_ n1_ n2_; clear ho hb hg hat; have hcz23_0:w22.cell? ⟨gb567,0,none⟩ = some (.int .i64 x568000_1):=(bc_ BK567.out 0).trans rfl; have hcz23_1:w22.cell? ⟨gb567,1,none⟩ = some (.int .i64 x568001_1):=(bc_ BK567.out 1).trans rfl; have hfz23_0:=bz_ BK567.out 0; have hfz23_1:=bz_ BK567.out 1) | (go_at_call 108; (with_reducible refine (spec_loStep.calls x568000_1 x568001_1 t568 t573 t574 _ A17.out).mono ?_); rintro e w24 ⟨rfl,hb⟩; have n0_:=am_ (Kd.R_below (kr_ HO572.out) hb); have n1_:=am_ (bb_ BK567.out hb); have n2_:=am_ (below_step (bl1_ HB.out GE567.out) hb); clear HO572; clear BK567; clear HB; have HO572:=n0_; have BK567:=n1_; have HB:=n2_; clear n0_ n1_ n2_; (try clear hb); (try clear hb2); (try clear hk); (try clear hi); have hcz25_0:w24.cell? ⟨gb567,0,none⟩ = some (.int .i64 x568000_1):=(bc_ BK567.out 0).trans rfl; have hcz25_1:w24.cell? ⟨gb567,1,none⟩ = some (.int .i64 x568001_1):=(bc_ BK567.out 1).trans rfl; have hfz25_0:=bz_ BK567.out 0; have hfz25_1:=bz_ BK567.out 1)))
         go_roundg k1
         case measure => have:=HK1.out; omega
         case rel => exact ⟨(y570),(wrap64 (x6_1 + 1)),(t573),(t574),rs_,H',⟨by have:=HK1.out; omega⟩,⟨by (with_reducible repeat (first | apply Kd.R_alloc | apply Kd.R_drewN | apply Kd.R_drew)); exact Kd.R_mono (Kd.R_far (p:=⟨gb567,1,none⟩) (Kd.R_far (p:=⟨gb567,0,none⟩) (Kd.R_mono HO572.out (fun k_ hk => (⟨hk,hk⟩:_ ∧ k_ ≠ gb567))) (fun _ hk => hk.2) (.int .i64 t573)) (fun _ hk => hk.2) (.int .i64 t574)) (fun _ hk => hk.1)⟩,⟨by (with_reducible repeat (first | refine blk_drewN ?_ _ | refine blk_drew ?_ | refine blk_alloc ?_ _)); refine blk_put (cs:=#[.int .i64 t573,.int .i64 x568001_1]) ?_ 1 _ rfl; (with_reducible repeat (first | refine blk_drewN ?_ _ | refine blk_drew ?_ | refine blk_alloc ?_ _)); refine blk_put (cs:=#[.int .i64 x568000_1,.int .i64 x568001_1]) ?_ 0 _ rfl; (with_reducible repeat (first | refine blk_drewN ?_ _ | refine blk_drew ?_ | refine blk_alloc ?_ _)); exact BK567.out⟩,⟨bl1_ HB.out GE567.out⟩⟩
        ·rw [if_neg c16] at H
         exact absurd H (by simp)
     ·rw [if_neg c7] at H
      exact absurd H (by simp)
    ·rw [if_neg c6] at H
     have c6b0:decide (x6_1 < (a0.size:Int)) = false:=decide_eq_false c6
     clear c6
     simp only [Option.some.injEq,Prod.mk.injEq] at H
     obtain ⟨rfl,rfl⟩:=H
     have hcz26_0:wr.cell? ⟨gb567,0,none⟩ = some (.int .i64 x568000_1):=(bc_ BK567.out 0).trans rfl
     have hcz26_1:wr.cell? ⟨gb567,1,none⟩ = some (.int .i64 x568001_1):=(bc_ BK567.out 1).trans rfl
     have hfz26_0:=bz_ BK567.out 0
     have hfz26_1:=bz_ BK567.out 1
     go_wp2
     repeat (go_quiet (fail); try go_wp2)
     go_ret2
     exact ⟨_,er_,by (with_reducible repeat (first | apply Kd.R_alloc | apply Kd.R_drewN | apply Kd.R_drew)); exact Kd.R_mono HO_4.out (fun _ hk => trivial),bl1_ HB.out GE567.out⟩
 ·replace c3:=Bool.eq_false_iff.mpr c3
  subst c3
  have H1:(some (([]:List (S84)),false)) = some (r1,r2):=by rw [if_neg (show ¬ (false = true) by decide)] at H; exact H
  clear H
  have H:=H1
  clear H1
  simp only [Option.some.injEq,Prod.mk.injEq] at H
  obtain ⟨rfl,rfl⟩:=H
  go_enter Tryd.func61,Tryd.ntmps61
  go_wp2_with (first | (go_at_call 75; (with_reducible refine (spec_l1In.calls (a0.size:Int) 4 40 false _ A2.out).mono ?_); rintro e w' ⟨rfl,⟨nd,rfl⟩⟩; (try first | exact ⟨rfl,_,World.drewN_drewN _ _ _⟩ | exact ⟨rfl,_,Eq.trans (World.drewN_drewN _ _ _) (congrArg (World.drewN _) (Nat.add_assoc _ _ _))⟩)))
  repeat (go_quiet (first | (go_at_call 75; (with_reducible refine (spec_l1In.calls (a0.size:Int) 4 40 false _ A2.out).mono ?_); rintro e w' ⟨rfl,⟨nd,rfl⟩⟩; (try first | exact ⟨rfl,_,World.drewN_drewN _ _ _⟩ | exact ⟨rfl,_,Eq.trans (World.drewN_drewN _ _ _) (congrArg (World.drewN _) (Nat.add_assoc _ _ _))⟩))); try go_wp2_with (first | (go_at_call 75; (with_reducible refine (spec_l1In.calls (a0.size:Int) 4 40 false _ A2.out).mono ?_); rintro e w' ⟨rfl,⟨nd,rfl⟩⟩; (try first | exact ⟨rfl,_,World.drewN_drewN _ _ _⟩ | exact ⟨rfl,_,Eq.trans (World.drewN_drewN _ _ _) (congrArg (World.drewN _) (Nat.add_assoc _ _ _))⟩))))
  go_ret2
  exact ⟨_,er_,by first | exact Kd.R_nil _ _ _ _ _ | exact Kd.N_nil _ _ _ _ _ | exact Kd.V_nil _ _ _ _ _ | exact Kd.Q_nil _ _ _ _ _ | exact Kd.S_nil _ _ _ _ _,bl0_ HB.out⟩

end Go.Proofs.YtehjfaddhmdicaaDoor.P
namespace Go.Proofs.YtehjfaddhmdicaaDoor.P
open Go.RowKit Go.Proofs.YtehjfaddhmdicaaDoorW.PrintWords Go.Proofs.YtehjfaddhmdicaaDoorW.PrintLast Go.Proofs.YtehjfaddhmdicaaDoorW.PrintMore
attribute [local go_sem] max2_int min2_int max_two min_two max_three min_three max_four min_four   -- for this text's walks alone
set_option linter.unusedVariables false
set_option linter.unusedSimpArgs false

abbrev Tt:Bool:=true
abbrev Ff:Bool:=false
section
variable {P:Program} {ops:Array Oper} {Q:Exit → Act → World → Prop} {S:World → Prop} {ds:List Nat} {md:Region.Mode} {i:Nat} {N:Option Tmp} {oi:Oper} {v:Value} {fuel:Nat} {l:Array Bool} {a a':Act} {w:World}
theorem pZ (l':Array Bool) (h:wpAnyLast P md ops Q S ds fuel l' a' w) (hi:ops[i]? = some oi:=by rfl) (hN:oi.dst = N:=by rfl) (hc:anyB md ops l l' i = true:=by exact any_of HT_.out (by kernel_rfl))
    (hQ:∀ c a w,Q (.panic c) (a.put oi.dst v) w → Q (.panic c) a w:=by exact fun _ _ _ h => h) (hw:Region.wanted oi (yielded ops a.tmps) = true:=by rfl) (hy:∀ w',(execOp a.eval oi).run P w' = .ok (.value v) w':=by (intro w'; go_simp; with_reducible rfl))
    (ha:a.put N v = a':=by (simp only [Act.put,List.setIfInBounds_toArray,List.set_cons_zero,List.set_cons_succ,i64_w,i32_w]; rfl)):wpAnyLast P md ops Q S ds (fuel + 1) l a w :=
  pure_ l' hi hN hc hQ (Or.inl ⟨hw,hy⟩) ha h
theorem pU (l':Array Bool) (h:wpAnyLast P md ops Q S ds fuel l' a' w) (hi:ops[i]? = some oi:=by rfl) (hN:oi.dst = N:=by rfl) (hc:anyB md ops l l' i = true:=by exact any_of HT_.out (by kernel_rfl))
    (hQ:∀ c a w,Q (.panic c) (a.put oi.dst undef) w → Q (.panic c) a w:=by exact fun _ _ _ h => h) (hw:Region.wanted oi (yielded ops a.tmps) = false:=by rfl)
    (ha:a.put N undef = a':=by (simp only [Act.put,List.setIfInBounds_toArray,List.set_cons_zero,List.set_cons_succ,i64_w,i32_w]; rfl)):wpAnyLast P md ops Q S ds (fuel + 1) l a w :=
  pure_ l' hi hN hc hQ (Or.inr ⟨hw,rfl⟩) ha h
theorem tZ (l':Array Bool) (h:wpAnyLast P md ops Q S ds fuel l' a' w) (hi:ops[i]? = some oi:=by rfl) (hN:oi.dst = N:=by rfl) (hc:takeB md ops ds l l' i = true:=by exact take_ofW HT_.out HW_.out (by kernel_rfl))
    (hQ:∀ c a w,Q (.panic c) (a.put oi.dst v) w → Q (.panic c) a w:=by exact fun _ _ _ h => h) (hw:Region.wanted oi (yielded ops a.tmps) = true:=by rfl) (hS:S w:=by exact hHeld) (hy:∀ w',S w' → (execOp a.eval oi).run P w' = .ok (.value v) w':=by (intro w' hS_; go_split_ands; go_simp; with_reducible rfl))
    (ha:a.put N v = a':=by (simp only [Act.put,List.setIfInBounds_toArray,List.set_cons_zero,List.set_cons_succ,i64_w,i32_w]; rfl)):wpAnyLast P md ops Q S ds (fuel + 1) l a w :=
  take_ l' hi hN hc hQ (Or.inl ⟨hw,hy⟩) hS ha h
end

end Go.Proofs.YtehjfaddhmdicaaDoor.P
namespace Go.Proofs.YtehjfaddhmdicaaDoor.P
open Go.RowKit Go.Proofs.YtehjfaddhmdicaaDoorW.PrintWords Go.Proofs.YtehjfaddhmdicaaDoorW.PrintLast Go.Proofs.YtehjfaddhmdicaaDoorW.PrintMore
attribute [local go_sem] max2_int min2_int max_two min_two max_three min_three max_four min_four   -- for this text's walks alone
set_option linter.unusedVariables false
set_option linter.unusedSimpArgs false

def spec_l1Least.f (a0:Int) (a1:Int):Option (Int):=if a0 < a1 then (some a0) else (some a1)
set_option maxHeartbeats 8000000 in
set_option maxRecDepth 100000 in
theorem spec_l1Least.calls (a0:Int) (a1:Int) (r:Int) (w:World) (h:spec_l1Least.f a0 a1 = some r) :
    Calls Tryd.prog 109 #[.int .i64 a0,.int .i64 a1] w fun e w' => e = .returned (.int .i64 r) ∧ Drawn0 w w':=by
  have H:(if a0 < a1 then (some a0) else (some a1)) = some r:=h
  clear h
  by_cases c3:a0 < a1
  · rw [if_pos c3] at H
    have c3b0:decide (a0 < a1) = true:=decide_eq_true c3
    clear c3
    obtain rfl:=Option.some.inj H
    go_enter Tryd.func109,Tryd.ntmps109
    go_wp2
    go_ret
    exact ⟨by first | rfl | (simp; done) | (simp [*]; done),by repeat (first | exact Drawn0.refl _ | apply Drawn0.step)⟩
  · rw [if_neg c3] at H
    have c3b0:decide (a0 < a1) = false:=decide_eq_false c3
    clear c3
    obtain rfl:=Option.some.inj H
    go_enter Tryd.func109,Tryd.ntmps109
    go_wp2
    go_ret
    exact ⟨by first | rfl | (simp; done) | (simp [*]; done),by repeat (first | exact Drawn0.refl _ | apply Drawn0.step)⟩


def spec_l1Most.f (a0:Int) (a1:Int):Option (Int):=if a0 > a1 then (some a0) else (some a1)
set_option maxHeartbeats 8000000 in
set_option maxRecDepth 100000 in
theorem spec_l1Most.calls (a0:Int) (a1:Int) (r:Int) (w:World) (h:spec_l1Most.f a0 a1 = some r) :
    Calls Tryd.prog 110 #[.int .i64 a0,.int .i64 a1] w fun e w' => e = .returned (.int .i64 r) ∧ Drawn0 w w':=by
  have H:(if a0 > a1 then (some a0) else (some a1)) = some r:=h
  clear h
  by_cases c3:a0 > a1
  · rw [if_pos c3] at H
    have c3b0:decide (a1 < a0) = true:=decide_eq_true c3
    clear c3
    obtain rfl:=Option.some.inj H
    go_enter Tryd.func110,Tryd.ntmps110
    go_wp2
    go_ret
    exact ⟨by first | rfl | (simp; done) | (simp [*]; done),by repeat (first | exact Drawn0.refl _ | apply Drawn0.step)⟩
  · rw [if_neg c3] at H
    have c3b0:decide (a1 < a0) = false:=decide_eq_false c3
    clear c3
    obtain rfl:=Option.some.inj H
    go_enter Tryd.func110,Tryd.ntmps110
    go_wp2
    go_ret
    exact ⟨by first | rfl | (simp; done) | (simp [*]; done),by repeat (first | exact Drawn0.refl _ | apply Drawn0.step)⟩


def spec_loBox.l0:Nat → List (S84) → Int → Int → Int → Int → Int → Int → Option (Int × Int × Int × Int)
 | 0,_,_,_,_,_,_,_ => none
 | k + 1,x14,x15,x16,x580000,x580001,x581000,x581001 => if x16 < x15 then (if 0 ≤ x16 then (if x16 < (x14.length:Int) then ((spec_l1Least.f x580000 ((rd_T84 x14 x16).f0)).bind fun t583 => ((spec_l1Least.f x580001 ((rd_T84 x14 x16).f1)).bind fun t584 => ((spec_l1Most.f x581000 ((rd_T84 x14 x16).f0)).bind fun t585 => ((spec_l1Most.f x581001 ((rd_T84 x14 x16).f1)).bind fun t586 => (spec_loBox.l0 k x14 x15 (wrap64 (x16 + 1)) t583 t584 t585 t586))))) else (none)) else (none)) else (some (x580000,x580001,x581000,x581001))
def spec_loBox.f (k:Nat) (l0:List (S84)):Option (Int × Int × Int × Int):=if 0 < (l0.length:Int) then (spec_loBox.l0 k l0 (l0.length:Int) 0 ((rd_T84 l0 0).f0) ((rd_T84 l0 0).f1) ((rd_T84 l0 0).f0) ((rd_T84 l0 0).f1)) else (none)
theorem spec_loBox.mono_l:∀ k,(∀ y0 y1 y2 y3 y4 y5 y6,LeO (spec_loBox.l0 k y0 y1 y2 y3 y4 y5 y6) (spec_loBox.l0 (k + 1) y0 y1 y2 y3 y4 y5 y6))
 | 0 => fun _ _ _ _ _ _ _ r h => by simp [spec_loBox.l0] at h
 | k + 1 => by
  have ih0:=spec_loBox.mono_l k
  ·intro y0 y1 y2 y3 y4 y5 y6
   unfold spec_loBox.l0
   repeat' first | (with_reducible first | exact ih0 _ _ _ _ _ _ _ | exact LeO.refl _ | exact LeO.none _ | refine LeO.ite ?_ ?_ | refine LeO.bind ?_ (fun _ => ?_)) | exact ih0 _ _ _ _ _ _ _
theorem spec_loBox.mono:∀ a0 k,LeO (spec_loBox.f k a0) (spec_loBox.f (k + 1) a0):=by
 intro a0 k
 have ih0:=spec_loBox.mono_l k
 unfold spec_loBox.f
 repeat' first | (with_reducible first | exact ih0 _ _ _ _ _ _ _ | exact LeO.refl _ | exact LeO.none _ | refine LeO.ite ?_ ?_ | refine LeO.bind ?_ (fun _ => ?_)) | exact ih0 _ _ _ _ _ _ _
def spec_loBox.T1:Bool × List (List Nat × List Nat):=(true,[([],[]),([0],[0]),([1],[1]),([],[]),([3],[3]),([4],[4]),([],[]),([],[]),([6,2,0,1,2,6,7],[2,6]),([7,5,8,0,1,2,3,4,5,6,7,8],[5,7])])
def spec_loBox.B1:List Nat:=[0,1,3,0,8,24,0,0,199,511]
theorem spec_loBox.tab1:rtab .any (opsOf Tryd.f62 1) = spec_loBox.T1:=by kernel_rfl
theorem spec_loBox.bits1:waitsOk spec_loBox.T1.2 spec_loBox.B1 = true:=by kernel_rfl
def spec_loBox.T5:Bool × List (List Nat × List Nat):=(true,[([],[]),([0],[0]),([],[]),([2],[2]),([1,3],[1,3]),([],[]),([5],[5]),([],[]),([7],[7]),([6,8,4],[6,8]),([4,9],[4,9]),([10,9,0,1,2,3,4,5,6,7,8,9,10],[10])])
def spec_loBox.B5:List Nat:=[0,1,0,4,15,0,32,0,128,511,1023,2047]
theorem spec_loBox.tab5:rtab .any (opsOf Tryd.f62 5) = spec_loBox.T5:=by kernel_rfl
theorem spec_loBox.bits5:waitsOk spec_loBox.T5.2 spec_loBox.B5 = true:=by kernel_rfl
def spec_loBox.T6:Bool × List (List Nat × List Nat):=(true,[([],[]),([0],[0]),([],[]),([2],[2]),([1,3],[1,3]),([],[]),([5],[5]),([],[]),([7],[7]),([6,8,4],[6,8]),([4,9],[4,9]),([10,9,0,1,2,3,4,5,6,7,8,9,10],[10])])
def spec_loBox.B6:List Nat:=[0,1,0,4,15,0,32,0,128,511,1023,2047]
theorem spec_loBox.tab6:rtab .any (opsOf Tryd.f62 6) = spec_loBox.T6:=by kernel_rfl
theorem spec_loBox.bits6:waitsOk spec_loBox.T6.2 spec_loBox.B6 = true:=by kernel_rfl
theorem spec_loBox.blk_q {w w':World} {n g:Nat} {o:Obj} (h:w.heap[g]? = some o) (hq:w.drewN n = w'):w'.heap[g]? = some o:=by subst hq; exact blk_drewN h _
theorem spec_loBox.below_q {b n:Nat} {w0 w w':World} (h:Below b w0 w) (hq:w.drewN n = w'):Below b w0 w':=by subst hq; exact pw_below_drewN h _
set_option maxHeartbeats 8000000 in
set_option maxRecDepth 100000 in
theorem spec_loBox.calls (k:Nat) (A0:Option Addr) (c0:Nat) (l0:List (S84)) (r1:Int) (r2:Int) (r3:Int) (r4:Int) (w:World) (hr0:Kd.C k84 w A0 l0.length l0) (hc0:l0.length ≤ c0) (h:spec_loBox.f k l0 = some (r1,r2,r3,r4)) :
  Calls Tryd.prog 62 #[.slice A0 l0.length c0] w fun e w' => e = .returned (.tuple #[.agg #[.int .i64 r1,.int .i64 r2],.agg #[.int .i64 r3,.int .i64 r4]]) ∧ Below w.heap.size w w':=by
 have hu84:=Tryd.underlying84
 have HR0:=am_ hr0
 have HC0:=am_ hc0
 clear hr0 hc0
 have HB:=am_ (Below.refl w.heap.size w)
 have H:(if 0 < (l0.length:Int) then (spec_loBox.l0 k l0 (l0.length:Int) 0 ((rd_T84 l0 0).f0) ((rd_T84 l0 0).f1) ((rd_T84 l0 0).f0) ((rd_T84 l0 0).f1)) else (none)) = some (r1,r2,r3,r4):=h
 clear h
 by_cases c2:0 < (l0.length:Int)
 ·rw [if_pos c2] at H
  have c2b0:decide (0 < (l0.length:Int)) = true:=decide_eq_true c2
  have c2b1:decide (0 < l0.length) = true:=decide_eq_true (by omega)
  clear c2
  have H':=am_ H
  clear H
  go_enter Tryd.func62,Tryd.ntmps62
  try go_wp2_with (first | ((with_reducible refine gate_dst (N:=2) rfl ?_); refine boxE_ (N:=2) (cs:=#[.int .i64 0,.int .i64 0]) (t:=84) ?_; intro gb575 hg w3 hbox hb; have n0_:=am_ (below_step (bl0_ HB.out) hb); have n1_:=am_ (hbox); have n2_:=am_ ((bs0_ hg HB.out:w.heap.size ≤ gb575)); have n3_:=am_ ((bs0_ hg HB.out:w.heap.size ≤ gb575)); clear HB; have HB:=n0_; have BK575:=n1_; have GW575:=n2_; have GE575:=n3_; clear n0_ n1_ n2_ n3_; clear hb hbox hg) | ((with_reducible refine gate_dst (N:=3) rfl ?_); refine boxE_ (N:=3) (cs:=#[.int .i64 0,.int .i64 0]) (t:=84) ?_; intro gb576 hg w4 hbox hb; have n0_:=am_ (bb_ BK575.out hb); have n1_:=am_ (below_step (bl1_ HB.out GE575.out) hb); have n2_:=am_ (hbox); have n3_:=am_ ((bs1_ hg HB.out GE575.out:w.heap.size ≤ gb576)); have n4_:=am_ ((bs1_ hg HB.out GE575.out:w.heap.size ≤ gb576)); have n5_:=am_ ((nl_ hg BK575.out:gb575 ≠ gb576)); have n6_:=am_ ((ng_ hg BK575.out:gb576 ≠ gb575)); clear BK575; clear HB; have BK575:=n0_; have HB:=n1_; have BK576:=n2_; have GW576:=n3_; have GE576:=n4_; have NB575_576:=n5_; have NB576_575:=n6_; clear n0_ n1_ n2_ n3_ n4_ n5_ n6_; clear hb hbox hg))
  have n0_:=am_ (blk_drew BK575.out)
  have n1_:=am_ (blk_drew BK576.out)
  have n2_:=am_ (below_drew1 HB.out)
  clear BK575
  clear BK576
  clear HB
  have BK575:=n0_
  have BK576:=n1_
  have HB:=n2_
  clear n0_ n1_ n2_
  have p577:0 ≤ (0:Int):=(by omega)
  have q577:0 < (l0.length:Int):=of_decide_eq_true as_
  obtain ⟨ad577,e577,hx577_0,hx577_1⟩:=at_T84 HR0.out 0 p577 q577
  have hw577_1:=hx577_1
  (try rw [show ((0:Int)).toNat = 0 from rfl] at hw577_1)
  (try rw [show 0 * 2 = 0 from rfl] at hw577_1)
  (try rw [Addr.add_zero'] at hw577_1)
  have hw577_0:=hx577_0
  (try rw [show ((0:Int)).toNat = 0 from rfl] at hw577_0)
  (try rw [show 0 * 2 = 0 from rfl] at hw577_0)
  (try rw [Addr.add_zero'] at hw577_0)
  cases e577
  have qi577:(0 < l0.length) = True:=eq_true (by omega)
  (try rw [show ((0:Int)).toNat = 0 from rfl] at hx577_0)
  (try rw [show 0 * 2 = 0 from rfl] at hx577_0)
  (try rw [Addr.add_zero'] at hx577_0)
  (try rw [show ((0:Int)).toNat = 0 from rfl] at hx577_1)
  (try rw [show 0 * 2 = 0 from rfl] at hx577_1)
  (try rw [Addr.add_zero'] at hx577_1)
  replace hx577_0:=(HB.out.cell (wl_ w _ hx577_0)).trans hx577_0
  replace hx577_1:=(HB.out.cell (wl_ w _ hx577_1)).trans hx577_1
  replace p577:=eq_true p577
  replace q577:=eq_true q577
  have p578:0 ≤ (0:Int):=(by omega)
  have q578:0 < (l0.length:Int):=of_decide_eq_true as_
  obtain ⟨ad578,e578,hx578_0,hx578_1⟩:=at_T84 HR0.out 0 p578 q578
  have hw578_1:=hx578_1
  (try rw [show ((0:Int)).toNat = 0 from rfl] at hw578_1)
  (try rw [show 0 * 2 = 0 from rfl] at hw578_1)
  (try rw [Addr.add_zero'] at hw578_1)
  have hw578_0:=hx578_0
  (try rw [show ((0:Int)).toNat = 0 from rfl] at hw578_0)
  (try rw [show 0 * 2 = 0 from rfl] at hw578_0)
  (try rw [Addr.add_zero'] at hw578_0)
  obtain rfl:ad577 = ad578:=(by injection e578)
  have qi578:(0 < l0.length) = True:=eq_true (by omega)
  (try rw [show ((0:Int)).toNat = 0 from rfl] at hx578_0)
  (try rw [show 0 * 2 = 0 from rfl] at hx578_0)
  (try rw [Addr.add_zero'] at hx578_0)
  (try rw [show ((0:Int)).toNat = 0 from rfl] at hx578_1)
  (try rw [show 0 * 2 = 0 from rfl] at hx578_1)
  (try rw [Addr.add_zero'] at hx578_1)
  replace hx578_0:=(HB.out.cell (wl_ w _ hx578_0)).trans hx578_0
  replace hx578_1:=(HB.out.cell (wl_ w _ hx578_1)).trans hx578_1
  replace p578:=eq_true p578
  replace q578:=eq_true q578
  refine start_ (n:=10) (S:=fun w' => w'.cell? ad577 = some (.int .i64 ((rd_T84 l0 0).f0)) ∧ w'.cell? ⟨ad577.block,ad577.off + 1,none⟩ = some (.int .i64 ((rd_T84 l0 0).f1)) ∧ w'.cell? ad577 = some (.int .i64 ((rd_T84 l0 0).f0)) ∧ w'.cell? ⟨ad577.block,ad577.off + 1,none⟩ = some (.int .i64 ((rd_T84 l0 0).f1))) (ds:=[]) #[Ff,Ff,Ff,Ff,Ff,Ff,Ff,Ff,Ff,Ff] (by kernel_rfl) rfl rfl ⟨((HB.out.cell (wl_ w _ hw577_0)).trans hw577_0),((HB.out.cell (wl_ w _ hw577_1)).trans hw577_1),((HB.out.cell (wl_ w _ hw578_0)).trans hw578_0),((HB.out.cell (wl_ w _ hw578_1)).trans hw578_1)⟩ (fun hHeld => ?_); refine with_tabW spec_loBox.tab1 spec_loBox.bits1 (fun HT_ HW_ => ?_)
  generalize w4.drew = w5 at BK575 BK576 HB hx577_0 hx577_1 hx578_0 hx578_1 hHeld ⊢
  refine pZ (i:=0) (N:=some 8) #[Tt,Ff,Ff,Ff,Ff,Ff,Ff,Ff,Ff,Ff] ?_
  refine pZ (i:=1) (N:=some 9) #[Tt,Tt,Ff,Ff,Ff,Ff,Ff,Ff,Ff,Ff] ?_
  refine pZ (i:=3) (N:=some 11) #[Tt,Tt,Ff,Tt,Ff,Ff,Ff,Ff,Ff,Ff] ?_
  refine pZ (i:=4) (N:=some 12) #[Tt,Tt,Ff,Tt,Tt,Ff,Ff,Ff,Ff,Ff] ?_
  refine tZ (i:=2) (N:=some 10) #[Tt,Tt,Tt,Tt,Tt,Ff,Ff,Ff,Ff,Ff] ?_
  refine tZ (i:=5) (N:=some 13) #[Tt,Tt,Tt,Tt,Tt,Tt,Ff,Ff,Ff,Ff] ?_
  refine join_ (σ:=Nat × Nat) 2 #[Tt,Tt,Tt,Tt,Tt,Tt,Tt,Tt,Ff,Ff] (fun s_ => [(4,.pointer (some ⟨s_.1,0,none⟩)),(5,.pointer (some ⟨s_.2,0,none⟩))]) (fun s_ w' => (w'.cell? ad577 = some (.int .i64 ((rd_T84 l0 0).f0)) ∧ w'.cell? ⟨ad577.block,ad577.off + 1,none⟩ = some (.int .i64 ((rd_T84 l0 0).f1)) ∧ w'.cell? ad577 = some (.int .i64 ((rd_T84 l0 0).f0)) ∧ w'.cell? ⟨ad577.block,ad577.off + 1,none⟩ = some (.int .i64 ((rd_T84 l0 0).f1))) ∧ (w'.heap[gb575]? = some (.cells #[.int .i64 0,.int .i64 0] 84 (0,0))) ∧ (w'.heap[gb576]? = some (.cells #[.int .i64 0,.int .i64 0] 84 (0,0))) ∧ (w'.heap[s_.1]? = some (.cells #[.int .i64 0,.int .i64 0] 84 (0,0))) ∧ (w'.heap[s_.2]? = some (.cells #[.int .i64 0,.int .i64 0] 84 (0,0))) ∧ (w.heap.size ≤ s_.1) ∧ (w.heap.size ≤ s_.1) ∧ (gb575 ≠ s_.1) ∧ (s_.1 ≠ gb575) ∧ (gb576 ≠ s_.1) ∧ (s_.1 ≠ gb576) ∧ (s_.2 ≠ s_.1) ∧ (s_.1 ≠ s_.2) ∧ (w.heap.size ≤ s_.2) ∧ (w.heap.size ≤ s_.2) ∧ (gb575 ≠ s_.2) ∧ (s_.2 ≠ gb575) ∧ (gb576 ≠ s_.2) ∧ (s_.2 ≠ gb576) ∧ (Below w.heap.size w w')) ?_ ?_
  rotate_left
  ·intro hCont
   refine two_ (i:=6) (j:=7) (Ni:=some 4) (Nj:=some 5) #[Tt,Tt,Tt,Tt,Tt,Tt,Tt,Ff,Ff,Ff] #[Tt,Tt,Tt,Tt,Tt,Tt,Ff,Tt,Ff,Ff] rfl rfl rfl rfl (two_of HT_.out (by kernel_rfl)) (by decide) (by decide) (fun K hK => ?_) (fun K hK => ?_)
   ·skip
    refine box_step ?hg (N:=4) ?hd (cs:=#[.int .i64 0,.int .i64 0]) (t:=84) ?hr ?_; (case hd => rfl); (case hg => rfl); (case hr => first | (go_simp; done) | (go_simp; rfl))
    intro gb579 hg w6 hbox hb
    have n0_:=am_ (bb_ BK575.out hb)
    have n1_:=am_ (bb_ BK576.out hb)
    have n2_:=am_ (below_step (bl2_ HB.out GE575.out GE576.out) hb)
    have n3_:=am_ (hbox)
    have n4_:=am_ ((bs2_ hg HB.out GE575.out GE576.out:w.heap.size ≤ gb579))
    have n5_:=am_ ((bs2_ hg HB.out GE575.out GE576.out:w.heap.size ≤ gb579))
    have n6_:=am_ ((nl_ hg BK575.out:gb575 ≠ gb579))
    have n7_:=am_ ((ng_ hg BK575.out:gb579 ≠ gb575))
    have n8_:=am_ ((nl_ hg BK576.out:gb576 ≠ gb579))
    have n9_:=am_ ((ng_ hg BK576.out:gb579 ≠ gb576))
    clear BK575
    clear BK576
    clear HB
    have BK575:=n0_
    have BK576:=n1_
    have HB:=n2_
    have BK579:=n3_
    have GW579:=n4_
    have GE579:=n5_
    have NB575_579:=n6_
    have NB579_575:=n7_
    have NB576_579:=n8_
    have NB579_576:=n9_
    clear n0_ n1_ n2_ n3_ n4_ n5_ n6_ n7_ n8_ n9_
    clear hb hbox hg
    refine hK.out _ _ ⟨((HB.out.cell (wl_ w _ hw577_0)).trans hw577_0),((HB.out.cell (wl_ w _ hw577_1)).trans hw577_1),((HB.out.cell (wl_ w _ hw578_0)).trans hw578_0),((HB.out.cell (wl_ w _ hw578_1)).trans hw578_1)⟩ (fun hHeld => ?_)
    clear hK K
    refine norm_ (a':=_) ap_ ?_
    refine one_ (i:=7) (N:=some 5) #[Tt,Tt,Tt,Tt,Tt,Tt,Tt,Tt,Ff,Ff] rfl rfl (one_of HT_.out (by kernel_rfl)) (by decide) (fun K hK => ?_)
    refine box_step ?hg (N:=5) ?hd (cs:=#[.int .i64 0,.int .i64 0]) (t:=84) ?hr ?_; (case hd => rfl); (case hg => rfl); (case hr => first | (go_simp; done) | (go_simp; rfl))
    intro gb580 hg w7 hbox hb
    have n0_:=am_ (bb_ BK575.out hb)
    have n1_:=am_ (bb_ BK576.out hb)
    have n2_:=am_ (bb_ BK579.out hb)
    have n3_:=am_ (below_step (bl3_ HB.out GE575.out GE576.out GE579.out) hb)
    have n4_:=am_ (hbox)
    have n5_:=am_ ((bs3_ hg HB.out GE575.out GE576.out GE579.out:w.heap.size ≤ gb580))
    have n6_:=am_ ((bs3_ hg HB.out GE575.out GE576.out GE579.out:w.heap.size ≤ gb580))
    have n7_:=am_ ((nl_ hg BK575.out:gb575 ≠ gb580))
    have n8_:=am_ ((ng_ hg BK575.out:gb580 ≠ gb575))
    have n9_:=am_ ((nl_ hg BK576.out:gb576 ≠ gb580))
    have n10_:=am_ ((ng_ hg BK576.out:gb580 ≠ gb576))
    have n11_:=am_ ((nl_ hg BK579.out:gb579 ≠ gb580))
    have n12_:=am_ ((ng_ hg BK579.out:gb580 ≠ gb579))
    clear BK575
    clear BK576
    clear BK579
    clear HB
    have BK575:=n0_
    have BK576:=n1_
    have BK579:=n2_
    have HB:=n3_
    have BK580:=n4_
    have GW580:=n5_
    have GE580:=n6_
    have NB575_580:=n7_
    have NB580_575:=n8_
    have NB576_580:=n9_
    have NB580_576:=n10_
    have NB579_580:=n11_
    have NB580_579:=n12_
    clear n0_ n1_ n2_ n3_ n4_ n5_ n6_ n7_ n8_ n9_ n10_ n11_ n12_
    clear hb hbox hg
    refine hK.out _ _ ⟨((HB.out.cell (wl_ w _ hw577_0)).trans hw577_0),((HB.out.cell (wl_ w _ hw577_1)).trans hw577_1),((HB.out.cell (wl_ w _ hw578_0)).trans hw578_0),((HB.out.cell (wl_ w _ hw578_1)).trans hw578_1)⟩ (fun hHeld => ?_)
    clear hK K
    refine norm_ (a':=_) ap_ ?_
    exact norm_ (by simp only [putAll,Act.put,List.setIfInBounds_toArray,List.set_cons_zero,List.set_cons_succ]) (hCont (gb579,gb580) _ ⟨hHeld,(bk_ BK575.out),(bk_ BK576.out),(bk_ BK579.out),(bk_ BK580.out),GW579.out,GE579.out,NB575_579.out,NB579_575.out,NB576_579.out,NB579_576.out,NB580_579.out,NB579_580.out,GW580.out,GE580.out,NB575_580.out,NB580_575.out,NB576_580.out,NB580_576.out,(bl4_ HB.out GE575.out GE576.out GE579.out GE580.out)⟩)
   ·skip
    refine box_step ?hg (N:=5) ?hd (cs:=#[.int .i64 0,.int .i64 0]) (t:=84) ?hr ?_; (case hd => rfl); (case hg => rfl); (case hr => first | (go_simp; done) | (go_simp; rfl))
    intro gb580 hg w6 hbox hb
    have n0_:=am_ (bb_ BK575.out hb)
    have n1_:=am_ (bb_ BK576.out hb)
    have n2_:=am_ (below_step (bl2_ HB.out GE575.out GE576.out) hb)
    have n3_:=am_ (hbox)
    have n4_:=am_ ((bs2_ hg HB.out GE575.out GE576.out:w.heap.size ≤ gb580))
    have n5_:=am_ ((bs2_ hg HB.out GE575.out GE576.out:w.heap.size ≤ gb580))
    have n6_:=am_ ((nl_ hg BK575.out:gb575 ≠ gb580))
    have n7_:=am_ ((ng_ hg BK575.out:gb580 ≠ gb575))
    have n8_:=am_ ((nl_ hg BK576.out:gb576 ≠ gb580))
    have n9_:=am_ ((ng_ hg BK576.out:gb580 ≠ gb576))
    clear BK575
    clear BK576
    clear HB
    have BK575:=n0_
    have BK576:=n1_
    have HB:=n2_
    have BK580:=n3_
    have GW580:=n4_
    have GE580:=n5_
    have NB575_580:=n6_
    have NB580_575:=n7_
    have NB576_580:=n8_
    have NB580_576:=n9_
    clear n0_ n1_ n2_ n3_ n4_ n5_ n6_ n7_ n8_ n9_
    clear hb hbox hg
    refine hK.out _ _ ⟨((HB.out.cell (wl_ w _ hw577_0)).trans hw577_0),((HB.out.cell (wl_ w _ hw577_1)).trans hw577_1),((HB.out.cell (wl_ w _ hw578_0)).trans hw578_0),((HB.out.cell (wl_ w _ hw578_1)).trans hw578_1)⟩ (fun hHeld => ?_)
    clear hK K
    refine norm_ (a':=_) ap_ ?_
    refine one_ (i:=6) (N:=some 4) #[Tt,Tt,Tt,Tt,Tt,Tt,Tt,Tt,Ff,Ff] rfl rfl (one_of HT_.out (by kernel_rfl)) (by decide) (fun K hK => ?_)
    refine box_step ?hg (N:=4) ?hd (cs:=#[.int .i64 0,.int .i64 0]) (t:=84) ?hr ?_; (case hd => rfl); (case hg => rfl); (case hr => first | (go_simp; done) | (go_simp; rfl))
    intro gb579 hg w7 hbox hb
    have n0_:=am_ (bb_ BK575.out hb)
    have n1_:=am_ (bb_ BK576.out hb)
    have n2_:=am_ (bb_ BK580.out hb)
    have n3_:=am_ (below_step (bl3_ HB.out GE575.out GE576.out GE580.out) hb)
    have n4_:=am_ (hbox)
    have n5_:=am_ ((bs3_ hg HB.out GE575.out GE576.out GE580.out:w.heap.size ≤ gb579))
    have n6_:=am_ ((bs3_ hg HB.out GE575.out GE576.out GE580.out:w.heap.size ≤ gb579))
    have n7_:=am_ ((nl_ hg BK575.out:gb575 ≠ gb579))
    have n8_:=am_ ((ng_ hg BK575.out:gb579 ≠ gb575))
    have n9_:=am_ ((nl_ hg BK576.out:gb576 ≠ gb579))
    have n10_:=am_ ((ng_ hg BK576.out:gb579 ≠ gb576))
    have n11_:=am_ ((nl_ hg BK580.out:gb580 ≠ gb579))
    have n12_:=am_ ((ng_ hg BK580.out:gb579 ≠ gb580))
    clear BK575
    clear BK576
    clear BK580
    clear HB
    have BK575:=n0_
    have BK576:=n1_
    have BK580:=n2_
    have HB:=n3_
    have BK579:=n4_
    have GW579:=n5_
    have GE579:=n6_
    have NB575_579:=n7_
    have NB579_575:=n8_
    have NB576_579:=n9_
    have NB579_576:=n10_
    have NB580_579:=n11_
    have NB579_580:=n12_
    clear n0_ n1_ n2_ n3_ n4_ n5_ n6_ n7_ n8_ n9_ n10_ n11_ n12_
    clear hb hbox hg
    refine hK.out _ _ ⟨((HB.out.cell (wl_ w _ hw577_0)).trans hw577_0),((HB.out.cell (wl_ w _ hw577_1)).trans hw577_1),((HB.out.cell (wl_ w _ hw578_0)).trans hw578_0),((HB.out.cell (wl_ w _ hw578_1)).trans hw578_1)⟩ (fun hHeld => ?_)
    clear hK K
    refine norm_ (a':=_) ap_ ?_
    exact norm_ (by simp only [putAll,Act.put,List.setIfInBounds_toArray,List.set_cons_zero,List.set_cons_succ]) (hCont (gb579,gb580) _ ⟨hHeld,(bk_ BK575.out),(bk_ BK576.out),(bk_ BK579.out),(bk_ BK580.out),GW579.out,GE579.out,NB575_579.out,NB579_575.out,NB576_579.out,NB579_576.out,NB580_579.out,NB579_580.out,GW580.out,GE580.out,NB575_580.out,NB580_575.out,NB576_580.out,NB580_576.out,(bl4_ HB.out GE575.out GE576.out GE580.out GE579.out)⟩)
  rintro ⟨gb579,gb580⟩ w8 ⟨hS_,h0_,h1_,h2_,h3_,h4_,h5_,h6_,h7_,h8_,h9_,h10_,h11_,h12_,h13_,h14_,h15_,h16_,h17_,h18_⟩
  have n0_:Aside0 (w8.heap[gb575]? = some (.cells #[.int .i64 0,.int .i64 0] 84 (0,0))):=⟨h0_⟩
  have n1_:Aside0 (w8.heap[gb576]? = some (.cells #[.int .i64 0,.int .i64 0] 84 (0,0))):=⟨h1_⟩
  have n2_:Aside0 (w8.heap[gb579]? = some (.cells #[.int .i64 0,.int .i64 0] 84 (0,0))):=⟨h2_⟩
  have n3_:Aside0 (w8.heap[gb580]? = some (.cells #[.int .i64 0,.int .i64 0] 84 (0,0))):=⟨h3_⟩
  have n4_:Aside0 (w.heap.size ≤ gb579):=⟨h4_⟩
  have n5_:Aside0 (w.heap.size ≤ gb579):=⟨h5_⟩
  have n6_:Aside0 (gb575 ≠ gb579):=⟨h6_⟩
  have n7_:Aside0 (gb579 ≠ gb575):=⟨h7_⟩
  have n8_:Aside0 (gb576 ≠ gb579):=⟨h8_⟩
  have n9_:Aside0 (gb579 ≠ gb576):=⟨h9_⟩
  have n10_:Aside0 (gb580 ≠ gb579):=⟨h10_⟩
  have n11_:Aside0 (gb579 ≠ gb580):=⟨h11_⟩
  have n12_:Aside0 (w.heap.size ≤ gb580):=⟨h12_⟩
  have n13_:Aside0 (w.heap.size ≤ gb580):=⟨h13_⟩
  have n14_:Aside0 (gb575 ≠ gb580):=⟨h14_⟩
  have n15_:Aside0 (gb580 ≠ gb575):=⟨h15_⟩
  have n16_:Aside0 (gb576 ≠ gb580):=⟨h16_⟩
  have n17_:Aside0 (gb580 ≠ gb576):=⟨h17_⟩
  have n18_:Aside0 (Below w.heap.size w w8):=⟨h18_⟩
  clear BK575
  clear BK576
  clear HB
  clear h0_ h1_ h2_ h3_ h4_ h5_ h6_ h7_ h8_ h9_ h10_ h11_ h12_ h13_ h14_ h15_ h16_ h17_ h18_
  have BK575:=n0_
  have BK576:=n1_
  have BK579:=n2_
  have BK580:=n3_
  have GW579:=n4_
  have GE579:=n5_
  have NB575_579:=n6_
  have NB579_575:=n7_
  have NB576_579:=n8_
  have NB579_576:=n9_
  have NB580_579:=n10_
  have NB579_580:=n11_
  have GW580:=n12_
  have GE580:=n13_
  have NB575_580:=n14_
  have NB580_575:=n15_
  have NB576_580:=n16_
  have NB580_576:=n17_
  have HB:=n18_
  clear n0_ n1_ n2_ n3_ n4_ n5_ n6_ n7_ n8_ n9_ n10_ n11_ n12_ n13_ n14_ n15_ n16_ n17_ n18_
  have hHeld:w8.cell? ad577 = some (.int .i64 ((rd_T84 l0 0).f0)) ∧ w8.cell? ⟨ad577.block,ad577.off + 1,none⟩ = some (.int .i64 ((rd_T84 l0 0).f1)) ∧ w8.cell? ad577 = some (.int .i64 ((rd_T84 l0 0).f0)) ∧ w8.cell? ⟨ad577.block,ad577.off + 1,none⟩ = some (.int .i64 ((rd_T84 l0 0).f1)):=hS_
  refine norm_ (a':=?_) ?_ ?_
  rotate_left
  ·simp only [putAll,Act.put,List.setIfInBounds_toArray,List.set_cons_zero,List.set_cons_succ]
   rfl
  refine one_ (i:=8) (N:=none) #[Tt,Tt,Tt,Tt,Tt,Tt,Tt,Tt,Tt,Ff] rfl rfl (one_of HT_.out (by kernel_rfl)) (by decide) (fun K hK => ?_)
  have hs9:w8.cell? ⟨gb579,0,none⟩ = some (.int .i64 0):=(bc_ BK579.out 0).trans rfl
  have hfs9:=bz_ BK579.out 0
  have hns9_0:=NB575_579.out
  have hns9_1:=NB576_579.out
  have hns9_3:=NB580_579.out
  have hms9_0:=NB579_575.out
  have hms9_1:=NB579_576.out
  have hms9_3:=NB579_580.out
  have hs10:w8.cell? ⟨gb579,1,none⟩ = some (.int .i64 0):=(bc_ BK579.out 1).trans rfl
  have hfs10:=bz_ BK579.out 1
  have hns10_0:=NB575_579.out
  have hns10_1:=NB576_579.out
  have hns10_3:=NB580_579.out
  have hms10_0:=NB579_575.out
  have hms10_1:=NB579_576.out
  have hms10_3:=NB579_580.out
  refine skip_ (w1:=?_) (by rfl) rfl ?_ ?_
  rotate_left
  ·go_simp
   rfl
  refine hK.out _ _ ⟨((cell_far (p:=⟨gb579,_,none⟩) (by first | exact Nat.ne_of_lt (Nat.lt_of_lt_of_le (by have:=wl_ _ _ hw577_0; first | rwa [add_block] at this | exact this) GW579.out) | (rw [add_block]; exact Nat.ne_of_lt (Nat.lt_of_lt_of_le (by have:=wl_ _ _ hw577_0; first | rwa [add_block] at this | exact this) GW579.out)) | (show (Addr.add _ _).block ≠ _; rw [add_block]; exact Nat.ne_of_lt (Nat.lt_of_lt_of_le (by have:=wl_ _ _ hw577_0; first | rwa [add_block] at this | exact this) GW579.out)) | (dsimp only; exact Nat.ne_of_lt (Nat.lt_of_lt_of_le (by have:=wl_ _ _ hw577_0; first | rwa [add_block] at this | exact this) GW579.out))) _).trans (((cell_far (p:=⟨gb579,_,none⟩) (by first | exact Nat.ne_of_lt (Nat.lt_of_lt_of_le (by have:=wl_ _ _ hw577_0; first | rwa [add_block] at this | exact this) GW579.out) | (rw [add_block]; exact Nat.ne_of_lt (Nat.lt_of_lt_of_le (by have:=wl_ _ _ hw577_0; first | rwa [add_block] at this | exact this) GW579.out)) | (show (Addr.add _ _).block ≠ _; rw [add_block]; exact Nat.ne_of_lt (Nat.lt_of_lt_of_le (by have:=wl_ _ _ hw577_0; first | rwa [add_block] at this | exact this) GW579.out)) | (dsimp only; exact Nat.ne_of_lt (Nat.lt_of_lt_of_le (by have:=wl_ _ _ hw577_0; first | rwa [add_block] at this | exact this) GW579.out))) _).trans (hHeld.1)))),((cell_far (p:=⟨gb579,_,none⟩) (by first | exact Nat.ne_of_lt (Nat.lt_of_lt_of_le (by have:=wl_ _ _ hw577_1; first | rwa [add_block] at this | exact this) GW579.out) | (rw [add_block]; exact Nat.ne_of_lt (Nat.lt_of_lt_of_le (by have:=wl_ _ _ hw577_1; first | rwa [add_block] at this | exact this) GW579.out)) | (show (Addr.add _ _).block ≠ _; rw [add_block]; exact Nat.ne_of_lt (Nat.lt_of_lt_of_le (by have:=wl_ _ _ hw577_1; first | rwa [add_block] at this | exact this) GW579.out)) | (dsimp only; exact Nat.ne_of_lt (Nat.lt_of_lt_of_le (by have:=wl_ _ _ hw577_1; first | rwa [add_block] at this | exact this) GW579.out))) _).trans (((cell_far (p:=⟨gb579,_,none⟩) (by first | exact Nat.ne_of_lt (Nat.lt_of_lt_of_le (by have:=wl_ _ _ hw577_1; first | rwa [add_block] at this | exact this) GW579.out) | (rw [add_block]; exact Nat.ne_of_lt (Nat.lt_of_lt_of_le (by have:=wl_ _ _ hw577_1; first | rwa [add_block] at this | exact this) GW579.out)) | (show (Addr.add _ _).block ≠ _; rw [add_block]; exact Nat.ne_of_lt (Nat.lt_of_lt_of_le (by have:=wl_ _ _ hw577_1; first | rwa [add_block] at this | exact this) GW579.out)) | (dsimp only; exact Nat.ne_of_lt (Nat.lt_of_lt_of_le (by have:=wl_ _ _ hw577_1; first | rwa [add_block] at this | exact this) GW579.out))) _).trans (hHeld.2.1)))),((cell_far (p:=⟨gb579,_,none⟩) (by first | exact Nat.ne_of_lt (Nat.lt_of_lt_of_le (by have:=wl_ _ _ hw578_0; first | rwa [add_block] at this | exact this) GW579.out) | (rw [add_block]; exact Nat.ne_of_lt (Nat.lt_of_lt_of_le (by have:=wl_ _ _ hw578_0; first | rwa [add_block] at this | exact this) GW579.out)) | (show (Addr.add _ _).block ≠ _; rw [add_block]; exact Nat.ne_of_lt (Nat.lt_of_lt_of_le (by have:=wl_ _ _ hw578_0; first | rwa [add_block] at this | exact this) GW579.out)) | (dsimp only; exact Nat.ne_of_lt (Nat.lt_of_lt_of_le (by have:=wl_ _ _ hw578_0; first | rwa [add_block] at this | exact this) GW579.out))) _).trans (((cell_far (p:=⟨gb579,_,none⟩) (by first | exact Nat.ne_of_lt (Nat.lt_of_lt_of_le (by have:=wl_ _ _ hw578_0; first | rwa [add_block] at this | exact this) GW579.out) | (rw [add_block]; exact Nat.ne_of_lt (Nat.lt_of_lt_of_le (by have:=wl_ _ _ hw578_0; first | rwa [add_block] at this | exact this) GW579.out)) | (show (Addr.add _ _).block ≠ _; rw [add_block]; exact Nat.ne_of_lt (Nat.lt_of_lt_of_le (by have:=wl_ _ _ hw578_0; first | rwa [add_block] at this | exact this) GW579.out)) | (dsimp only; exact Nat.ne_of_lt (Nat.lt_of_lt_of_le (by have:=wl_ _ _ hw578_0; first | rwa [add_block] at this | exact this) GW579.out))) _).trans (hHeld.2.2.1)))),((cell_far (p:=⟨gb579,_,none⟩) (by first | exact Nat.ne_of_lt (Nat.lt_of_lt_of_le (by have:=wl_ _ _ hw578_1; first | rwa [add_block] at this | exact this) GW579.out) | (rw [add_block]; exact Nat.ne_of_lt (Nat.lt_of_lt_of_le (by have:=wl_ _ _ hw578_1; first | rwa [add_block] at this | exact this) GW579.out)) | (show (Addr.add _ _).block ≠ _; rw [add_block]; exact Nat.ne_of_lt (Nat.lt_of_lt_of_le (by have:=wl_ _ _ hw578_1; first | rwa [add_block] at this | exact this) GW579.out)) | (dsimp only; exact Nat.ne_of_lt (Nat.lt_of_lt_of_le (by have:=wl_ _ _ hw578_1; first | rwa [add_block] at this | exact this) GW579.out))) _).trans (((cell_far (p:=⟨gb579,_,none⟩) (by first | exact Nat.ne_of_lt (Nat.lt_of_lt_of_le (by have:=wl_ _ _ hw578_1; first | rwa [add_block] at this | exact this) GW579.out) | (rw [add_block]; exact Nat.ne_of_lt (Nat.lt_of_lt_of_le (by have:=wl_ _ _ hw578_1; first | rwa [add_block] at this | exact this) GW579.out)) | (show (Addr.add _ _).block ≠ _; rw [add_block]; exact Nat.ne_of_lt (Nat.lt_of_lt_of_le (by have:=wl_ _ _ hw578_1; first | rwa [add_block] at this | exact this) GW579.out)) | (dsimp only; exact Nat.ne_of_lt (Nat.lt_of_lt_of_le (by have:=wl_ _ _ hw578_1; first | rwa [add_block] at this | exact this) GW579.out))) _).trans (hHeld.2.2.2))))⟩ (fun hHeld => ?_)
  clear hK K
  refine one_ (i:=9) (N:=none) #[Tt,Tt,Tt,Tt,Tt,Tt,Tt,Tt,Tt,Tt] rfl rfl (one_of HT_.out (by kernel_rfl)) (by decide) (fun K hK => ?_)
  have hs11:w8.cell? ⟨gb580,0,none⟩ = some (.int .i64 0):=(bc_ BK580.out 0).trans rfl
  have hfs11:=bz_ BK580.out 0
  have hns11_0:=NB575_580.out
  have hns11_1:=NB576_580.out
  have hns11_2:=NB579_580.out
  have hms11_0:=NB580_575.out
  have hms11_1:=NB580_576.out
  have hms11_2:=NB580_579.out
  have hs12:w8.cell? ⟨gb580,1,none⟩ = some (.int .i64 0):=(bc_ BK580.out 1).trans rfl
  have hfs12:=bz_ BK580.out 1
  have hns12_0:=NB575_580.out
  have hns12_1:=NB576_580.out
  have hns12_2:=NB579_580.out
  have hms12_0:=NB580_575.out
  have hms12_1:=NB580_576.out
  have hms12_2:=NB580_579.out
  refine skip_ (w1:=?_) (by rfl) rfl ?_ ?_
  rotate_left
  ·go_simp
   rfl
  refine hK.out _ _ ⟨((cell_far (p:=⟨gb580,_,none⟩) (by first | exact Nat.ne_of_lt (Nat.lt_of_lt_of_le (by have:=wl_ _ _ hw577_0; first | rwa [add_block] at this | exact this) GW580.out) | (rw [add_block]; exact Nat.ne_of_lt (Nat.lt_of_lt_of_le (by have:=wl_ _ _ hw577_0; first | rwa [add_block] at this | exact this) GW580.out)) | (show (Addr.add _ _).block ≠ _; rw [add_block]; exact Nat.ne_of_lt (Nat.lt_of_lt_of_le (by have:=wl_ _ _ hw577_0; first | rwa [add_block] at this | exact this) GW580.out)) | (dsimp only; exact Nat.ne_of_lt (Nat.lt_of_lt_of_le (by have:=wl_ _ _ hw577_0; first | rwa [add_block] at this | exact this) GW580.out))) _).trans (((cell_far (p:=⟨gb580,_,none⟩) (by first | exact Nat.ne_of_lt (Nat.lt_of_lt_of_le (by have:=wl_ _ _ hw577_0; first | rwa [add_block] at this | exact this) GW580.out) | (rw [add_block]; exact Nat.ne_of_lt (Nat.lt_of_lt_of_le (by have:=wl_ _ _ hw577_0; first | rwa [add_block] at this | exact this) GW580.out)) | (show (Addr.add _ _).block ≠ _; rw [add_block]; exact Nat.ne_of_lt (Nat.lt_of_lt_of_le (by have:=wl_ _ _ hw577_0; first | rwa [add_block] at this | exact this) GW580.out)) | (dsimp only; exact Nat.ne_of_lt (Nat.lt_of_lt_of_le (by have:=wl_ _ _ hw577_0; first | rwa [add_block] at this | exact this) GW580.out))) _).trans (hHeld.1)))),((cell_far (p:=⟨gb580,_,none⟩) (by first | exact Nat.ne_of_lt (Nat.lt_of_lt_of_le (by have:=wl_ _ _ hw577_1; first | rwa [add_block] at this | exact this) GW580.out) | (rw [add_block]; exact Nat.ne_of_lt (Nat.lt_of_lt_of_le (by have:=wl_ _ _ hw577_1; first | rwa [add_block] at this | exact this) GW580.out)) | (show (Addr.add _ _).block ≠ _; rw [add_block]; exact Nat.ne_of_lt (Nat.lt_of_lt_of_le (by have:=wl_ _ _ hw577_1; first | rwa [add_block] at this | exact this) GW580.out)) | (dsimp only; exact Nat.ne_of_lt (Nat.lt_of_lt_of_le (by have:=wl_ _ _ hw577_1; first | rwa [add_block] at this | exact this) GW580.out))) _).trans (((cell_far (p:=⟨gb580,_,none⟩) (by first | exact Nat.ne_of_lt (Nat.lt_of_lt_of_le (by have:=wl_ _ _ hw577_1; first | rwa [add_block] at this | exact this) GW580.out) | (rw [add_block]; exact Nat.ne_of_lt (Nat.lt_of_lt_of_le (by have:=wl_ _ _ hw577_1; first | rwa [add_block] at this | exact this) GW580.out)) | (show (Addr.add _ _).block ≠ _; rw [add_block]; exact Nat.ne_of_lt (Nat.lt_of_lt_of_le (by have:=wl_ _ _ hw577_1; first | rwa [add_block] at this | exact this) GW580.out)) | (dsimp only; exact Nat.ne_of_lt (Nat.lt_of_lt_of_le (by have:=wl_ _ _ hw577_1; first | rwa [add_block] at this | exact this) GW580.out))) _).trans (hHeld.2.1)))),((cell_far (p:=⟨gb580,_,none⟩) (by first | exact Nat.ne_of_lt (Nat.lt_of_lt_of_le (by have:=wl_ _ _ hw578_0; first | rwa [add_block] at this | exact this) GW580.out) | (rw [add_block]; exact Nat.ne_of_lt (Nat.lt_of_lt_of_le (by have:=wl_ _ _ hw578_0; first | rwa [add_block] at this | exact this) GW580.out)) | (show (Addr.add _ _).block ≠ _; rw [add_block]; exact Nat.ne_of_lt (Nat.lt_of_lt_of_le (by have:=wl_ _ _ hw578_0; first | rwa [add_block] at this | exact this) GW580.out)) | (dsimp only; exact Nat.ne_of_lt (Nat.lt_of_lt_of_le (by have:=wl_ _ _ hw578_0; first | rwa [add_block] at this | exact this) GW580.out))) _).trans (((cell_far (p:=⟨gb580,_,none⟩) (by first | exact Nat.ne_of_lt (Nat.lt_of_lt_of_le (by have:=wl_ _ _ hw578_0; first | rwa [add_block] at this | exact this) GW580.out) | (rw [add_block]; exact Nat.ne_of_lt (Nat.lt_of_lt_of_le (by have:=wl_ _ _ hw578_0; first | rwa [add_block] at this | exact this) GW580.out)) | (show (Addr.add _ _).block ≠ _; rw [add_block]; exact Nat.ne_of_lt (Nat.lt_of_lt_of_le (by have:=wl_ _ _ hw578_0; first | rwa [add_block] at this | exact this) GW580.out)) | (dsimp only; exact Nat.ne_of_lt (Nat.lt_of_lt_of_le (by have:=wl_ _ _ hw578_0; first | rwa [add_block] at this | exact this) GW580.out))) _).trans (hHeld.2.2.1)))),((cell_far (p:=⟨gb580,_,none⟩) (by first | exact Nat.ne_of_lt (Nat.lt_of_lt_of_le (by have:=wl_ _ _ hw578_1; first | rwa [add_block] at this | exact this) GW580.out) | (rw [add_block]; exact Nat.ne_of_lt (Nat.lt_of_lt_of_le (by have:=wl_ _ _ hw578_1; first | rwa [add_block] at this | exact this) GW580.out)) | (show (Addr.add _ _).block ≠ _; rw [add_block]; exact Nat.ne_of_lt (Nat.lt_of_lt_of_le (by have:=wl_ _ _ hw578_1; first | rwa [add_block] at this | exact this) GW580.out)) | (dsimp only; exact Nat.ne_of_lt (Nat.lt_of_lt_of_le (by have:=wl_ _ _ hw578_1; first | rwa [add_block] at this | exact this) GW580.out))) _).trans (((cell_far (p:=⟨gb580,_,none⟩) (by first | exact Nat.ne_of_lt (Nat.lt_of_lt_of_le (by have:=wl_ _ _ hw578_1; first | rwa [add_block] at this | exact this) GW580.out) | (rw [add_block]; exact Nat.ne_of_lt (Nat.lt_of_lt_of_le (by have:=wl_ _ _ hw578_1; first | rwa [add_block] at this | exact this) GW580.out)) | (show (Addr.add _ _).block ≠ _; rw [add_block]; exact Nat.ne_of_lt (Nat.lt_of_lt_of_le (by have:=wl_ _ _ hw578_1; first | rwa [add_block] at this | exact this) GW580.out)) | (dsimp only; exact Nat.ne_of_lt (Nat.lt_of_lt_of_le (by have:=wl_ _ _ hw578_1; first | rwa [add_block] at this | exact this) GW580.out))) _).trans (hHeld.2.2.2))))⟩ (fun hHeld => ?_)
  clear hK K
  refine done_ (done_of HT_.out (by kernel_rfl)) ?_
  try go_wp2
  go_loopg [16] k (fun kq v16 w' => ∃ (x16_1:Int) (x580000_1:Int) (x580001_1:Int) (x581000_1:Int) (x581001_1:Int),v16 = .int .i64 x16_1 ∧ Aside0 (spec_loBox.l0 kq l0 (l0.length:Int) x16_1 x580000_1 x580001_1 x581000_1 x581001_1 = some (r1,r2,r3,r4)) ∧ Aside0 (kq ≤ k) ∧ Aside0 (w'.heap[gb575]? = some (.cells #[.int .i64 0,.int .i64 0] 84 (0,0))) ∧ Aside0 (w'.heap[gb576]? = some (.cells #[.int .i64 0,.int .i64 0] 84 (0,0))) ∧ Aside0 (w'.heap[gb579]? = some (.cells #[.int .i64 x580000_1,.int .i64 x580001_1] 84 (0,0))) ∧ Aside0 (w'.heap[gb580]? = some (.cells #[.int .i64 x581000_1,.int .i64 x581001_1] 84 (0,0))) ∧ Aside0 (Below w.heap.size w w'))
  case atStart => exact ⟨(0),((rd_T84 l0 0).f0),((rd_T84 l0 0).f1),((rd_T84 l0 0).f0),((rd_T84 l0 0).f1),rs_,H',⟨Nat.le_refl _⟩,⟨bf4_ NB575_580.out NB575_580.out NB575_579.out NB575_579.out BK575.out⟩,⟨bf4_ NB576_580.out NB576_580.out NB576_579.out NB576_579.out BK576.out⟩,⟨by (with_reducible repeat (first | refine blk_drewN ?_ _ | refine blk_drew ?_ | refine blk_alloc ?_ _)); refine blk_far ?_ NB579_580.out _; (with_reducible repeat (first | refine blk_drewN ?_ _ | refine blk_drew ?_ | refine blk_alloc ?_ _)); refine blk_far ?_ NB579_580.out _; (with_reducible repeat (first | refine blk_drewN ?_ _ | refine blk_drew ?_ | refine blk_alloc ?_ _)); refine blk_put (cs:=#[.int .i64 ((rd_T84 l0 0).f0),.int .i64 0]) ?_ 1 _ rfl; (with_reducible repeat (first | refine blk_drewN ?_ _ | refine blk_drew ?_ | refine blk_alloc ?_ _)); refine blk_put (cs:=#[.int .i64 0,.int .i64 0]) ?_ 0 _ rfl; (with_reducible repeat (first | refine blk_drewN ?_ _ | refine blk_drew ?_ | refine blk_alloc ?_ _)); exact BK579.out⟩,⟨by (with_reducible repeat (first | refine blk_drewN ?_ _ | refine blk_drew ?_ | refine blk_alloc ?_ _)); refine blk_put (cs:=#[.int .i64 ((rd_T84 l0 0).f0),.int .i64 0]) ?_ 1 _ rfl; (with_reducible repeat (first | refine blk_drewN ?_ _ | refine blk_drew ?_ | refine blk_alloc ?_ _)); refine blk_put (cs:=#[.int .i64 0,.int .i64 0]) ?_ 0 _ rfl; (with_reducible repeat (first | refine blk_drewN ?_ _ | refine blk_drew ?_ | refine blk_alloc ?_ _)); refine blk_far ?_ NB580_579.out _; (with_reducible repeat (first | refine blk_drewN ?_ _ | refine blk_drew ?_ | refine blk_alloc ?_ _)); refine blk_far ?_ NB580_579.out _; (with_reducible repeat (first | refine blk_drewN ?_ _ | refine blk_drew ?_ | refine blk_alloc ?_ _)); exact BK580.out⟩,⟨bl4_ HB.out GE575.out GE576.out GE579.out GE580.out⟩⟩
  case round =>
   clear H'
   try clear c2
   try clear c2b0
   try clear c2b1
   try clear p2
   try clear p5
   try clear q5
   try clear hx5
   try clear qi5
   try clear c6
   try clear hx577_0
   try clear hx577_1
   try clear hx578_0
   try clear hx578_1
   try clear p577
   try clear p578
   try clear q577
   try clear q578
   obtain ⟨x16_1,x580000_1,x580001_1,x581000_1,x581001_1,rfl,HA,HK1,BK575,BK576,BK579,BK580,HB⟩:=hrel
   cases gk with
   | zero => exact absurd HA.out (by simp [spec_loBox.l0])
   | succ k1 =>
    have H:=HA.out
    clear HA
    simp only [spec_loBox.l0] at H
    by_cases c13:x16_1 < (l0.length:Int)
    ·rw [if_pos c13] at H
     have c13b0:decide (x16_1 < (l0.length:Int)) = true:=decide_eq_true c13
     clear c13
     by_cases c14:0 ≤ x16_1
     ·rw [if_pos c14] at H
      have c14b0:decide (0 ≤ x16_1) = true:=decide_eq_true c14
      clear c14
      by_cases c15:x16_1 < (l0.length:Int)
      ·rw [if_pos c15] at H
       have c15b0:decide (x16_1 < (l0.length:Int)) = true:=decide_eq_true c15
       clear c15
       replace H:=bi_ H
       obtain ⟨t583,A160,H⟩:=H
       replace H:((spec_l1Least.f x580001_1 ((rd_T84 l0 x16_1).f1)).bind fun t584 => ((spec_l1Most.f x581000_1 ((rd_T84 l0 x16_1).f0)).bind fun t585 => ((spec_l1Most.f x581001_1 ((rd_T84 l0 x16_1).f1)).bind fun t586 => (spec_loBox.l0 k1 l0 (l0.length:Int) (wrap64 (x16_1 + 1)) t583 t584 t585 t586)))) = some (r1,r2,r3,r4):=H
       have A16:=am_ A160
       clear A160
       replace H:=bi_ H
       obtain ⟨t584,A170,H⟩:=H
       replace H:((spec_l1Most.f x581000_1 ((rd_T84 l0 x16_1).f0)).bind fun t585 => ((spec_l1Most.f x581001_1 ((rd_T84 l0 x16_1).f1)).bind fun t586 => (spec_loBox.l0 k1 l0 (l0.length:Int) (wrap64 (x16_1 + 1)) t583 t584 t585 t586))) = some (r1,r2,r3,r4):=H
       have A17:=am_ A170
       clear A170
       replace H:=bi_ H
       obtain ⟨t585,A180,H⟩:=H
       replace H:((spec_l1Most.f x581001_1 ((rd_T84 l0 x16_1).f1)).bind fun t586 => (spec_loBox.l0 k1 l0 (l0.length:Int) (wrap64 (x16_1 + 1)) t583 t584 t585 t586)) = some (r1,r2,r3,r4):=H
       have A18:=am_ A180
       clear A180
       replace H:=bi_ H
       obtain ⟨t586,A190,H⟩:=H
       replace H:(spec_loBox.l0 k1 l0 (l0.length:Int) (wrap64 (x16_1 + 1)) t583 t584 t585 t586) = some (r1,r2,r3,r4):=H
       have A19:=am_ A190
       clear A190
       have H':=am_ H
       clear H
       have p581:0 ≤ (x16_1:Int):=of_decide_eq_true as_
       have q581:x16_1 < (l0.length:Int):=of_decide_eq_true as_
       obtain ⟨ad581,e581,hx581_0,hx581_1⟩:=at_T84 HR0.out x16_1 p581 q581
       obtain rfl:ad577 = ad581:=(by injection e581)
       replace hx581_0:=(HB.out.cell (wl_ w _ hx581_0)).trans hx581_0
       replace hx581_1:=(HB.out.cell (wl_ w _ hx581_1)).trans hx581_1
       replace p581:=eq_true p581
       replace q581:=eq_true q581
       try go_wp2_with (first | ((with_reducible refine gate_dst (N:=7) rfl ?_); refine boxE_ (N:=7) (cs:=#[.int .i64 0,.int .i64 0]) (t:=84) ?_; intro gb582 hg w20 hbox hb; have n0_:=am_ (bb_ BK575.out hb); have n1_:=am_ (bb_ BK576.out hb); have n2_:=am_ (bb_ BK579.out hb); have n3_:=am_ (bb_ BK580.out hb); have n4_:=am_ (below_step (bl4_ HB.out GE575.out GE576.out GE579.out GE580.out) hb); have n5_:=am_ (hbox); have n6_:=am_ ((bs4_ hg HB.out GE575.out GE576.out GE579.out GE580.out:w.heap.size ≤ gb582)); have n7_:=am_ ((bs4_ hg HB.out GE575.out GE576.out GE579.out GE580.out:w.heap.size ≤ gb582)); have n8_:=am_ ((nl_ hg BK575.out:gb575 ≠ gb582)); have n9_:=am_ ((ng_ hg BK575.out:gb582 ≠ gb575)); have n10_:=am_ ((nl_ hg BK576.out:gb576 ≠ gb582)); have n11_:=am_ ((ng_ hg BK576.out:gb582 ≠ gb576)); have n12_:=am_ ((nl_ hg BK579.out:gb579 ≠ gb582)); have n13_:=am_ ((ng_ hg BK579.out:gb582 ≠ gb579)); have n14_:=am_ ((nl_ hg BK580.out:gb580 ≠ gb582)); have n15_:=am_ ((ng_ hg BK580.out:gb582 ≠ gb580)); clear BK575; clear BK576; clear BK579; clear BK580; clear HB; have BK575:=n0_; have BK576:=n1_; have BK579:=n2_; have BK580:=n3_; have HB:=n4_; have BK582:=n5_; have GW582:=n6_; have GE582:=n7_; have NB575_582:=n8_; have NB582_575:=n9_; have NB576_582:=n10_; have NB582_576:=n11_; have NB579_582:=n12_; have NB582_579:=n13_; have NB580_582:=n14_; have NB582_580:=n15_; clear n0_ n1_ n2_ n3_ n4_ n5_ n6_ n7_ n8_ n9_ n10_ n11_ n12_ n13_ n14_ n15_; clear hb hbox hg; have hnb21:=NB582_575.out; have hnc21:=NB575_582.out; have hnb22:=NB582_576.out; have hnc22:=NB576_582.out; have hnb23:=NB582_579.out; have hnc23:=NB579_582.out; have hnb24:=NB582_580.out; have hnc24:=NB580_582.out; have hcz25_0:w20.cell? ⟨gb582,0,none⟩ = some (.int .i64 0):=(bc_ BK582.out 0).trans rfl; have hcz25_1:w20.cell? ⟨gb582,1,none⟩ = some (.int .i64 0):=(bc_ BK582.out 1).trans rfl; have hfz25_0:=bz_ BK582.out 0; have hfz25_1:=bz_ BK582.out 1))
       have n0_:Aside0 (((w20.setCell ⟨gb582,0,none⟩ (.int .i64 ((rd_T84 l0 x16_1).f0))).setCell ⟨gb582,1,none⟩ (.int .i64 ((rd_T84 l0 x16_1).f1))).heap[gb575]? = some (.cells #[.int .i64 0,.int .i64 0] 84 (0,0))):=⟨bf2_ NB575_582.out NB575_582.out BK575.out⟩
       have n1_:Aside0 (((w20.setCell ⟨gb582,0,none⟩ (.int .i64 ((rd_T84 l0 x16_1).f0))).setCell ⟨gb582,1,none⟩ (.int .i64 ((rd_T84 l0 x16_1).f1))).heap[gb576]? = some (.cells #[.int .i64 0,.int .i64 0] 84 (0,0))):=⟨bf2_ NB576_582.out NB576_582.out BK576.out⟩
       have n2_:Aside0 (((w20.setCell ⟨gb582,0,none⟩ (.int .i64 ((rd_T84 l0 x16_1).f0))).setCell ⟨gb582,1,none⟩ (.int .i64 ((rd_T84 l0 x16_1).f1))).heap[gb579]? = some (.cells #[.int .i64 x580000_1,.int .i64 x580001_1] 84 (0,0))):=⟨bf2_ NB579_582.out NB579_582.out BK579.out⟩
       have n3_:Aside0 (((w20.setCell ⟨gb582,0,none⟩ (.int .i64 ((rd_T84 l0 x16_1).f0))).setCell ⟨gb582,1,none⟩ (.int .i64 ((rd_T84 l0 x16_1).f1))).heap[gb580]? = some (.cells #[.int .i64 x581000_1,.int .i64 x581001_1] 84 (0,0))):=⟨bf2_ NB580_582.out NB580_582.out BK580.out⟩
       have n4_:Aside0 (((w20.setCell ⟨gb582,0,none⟩ (.int .i64 ((rd_T84 l0 x16_1).f0))).setCell ⟨gb582,1,none⟩ (.int .i64 ((rd_T84 l0 x16_1).f1))).heap[gb582]? = some (.cells #[.int .i64 ((rd_T84 l0 x16_1).f0),.int .i64 ((rd_T84 l0 x16_1).f1)] 84 (0,0))):=⟨by (with_reducible repeat (first | refine blk_drewN ?_ _ | refine blk_drew ?_ | refine blk_alloc ?_ _)); refine blk_put (cs:=#[.int .i64 ((rd_T84 l0 x16_1).f0),.int .i64 0]) ?_ 1 _ rfl; (with_reducible repeat (first | refine blk_drewN ?_ _ | refine blk_drew ?_ | refine blk_alloc ?_ _)); refine blk_put (cs:=#[.int .i64 0,.int .i64 0]) ?_ 0 _ rfl; (with_reducible repeat (first | refine blk_drewN ?_ _ | refine blk_drew ?_ | refine blk_alloc ?_ _)); exact BK582.out⟩
       have n5_:Aside0 (Below w.heap.size w ((w20.setCell ⟨gb582,0,none⟩ (.int .i64 ((rd_T84 l0 x16_1).f0))).setCell ⟨gb582,1,none⟩ (.int .i64 ((rd_T84 l0 x16_1).f1)))):=⟨bl5_ HB.out GE575.out GE576.out GE579.out GE580.out GE582.out⟩
       (try clear BK575)
       (try clear BK576)
       (try clear BK579)
       (try clear BK580)
       (try clear BK582)
       (try clear HB)
       generalize ((w20.setCell ⟨gb582,0,none⟩ (.int .i64 ((rd_T84 l0 x16_1).f0))).setCell ⟨gb582,1,none⟩ (.int .i64 ((rd_T84 l0 x16_1).f1))) = w26 at n0_ n1_ n2_ n3_ n4_ n5_ ⊢
       have BK575:=n0_
       have BK576:=n1_
       have BK579:=n2_
       have BK580:=n3_
       have BK582:=n4_
       have HB:=n5_
       clear n0_ n1_ n2_ n3_ n4_ n5_
       have n0_:=am_ (blk_drew BK575.out)
       have n1_:=am_ (blk_drew BK576.out)
       have n2_:=am_ (blk_drew BK579.out)
       have n3_:=am_ (blk_drew BK580.out)
       have n4_:=am_ (blk_drew BK582.out)
       have n5_:=am_ (below_drew1 HB.out)
       clear BK575
       clear BK576
       clear BK579
       clear BK580
       clear BK582
       clear HB
       have BK575:=n0_
       have BK576:=n1_
       have BK579:=n2_
       have BK580:=n3_
       have BK582:=n4_
       have HB:=n5_
       clear n0_ n1_ n2_ n3_ n4_ n5_
       refine start_ (n:=12) (S:=fun w' => w'.cell? ⟨gb579,0,none⟩ = some (.int .i64 x580000_1) ∧ w'.cell? ⟨gb579,1,none⟩ = some (.int .i64 x580001_1) ∧ w'.cell? ⟨gb582,0,none⟩ = some (.int .i64 ((rd_T84 l0 x16_1).f0)) ∧ w'.cell? ⟨gb582,1,none⟩ = some (.int .i64 ((rd_T84 l0 x16_1).f1))) (ds:=[11]) #[Ff,Ff,Ff,Ff,Ff,Ff,Ff,Ff,Ff,Ff,Ff,Ff] (by kernel_rfl) rfl rfl ⟨(bc_ BK579.out 0).trans rfl,(bc_ BK579.out 1).trans rfl,(bc_ BK582.out 0).trans rfl,(bc_ BK582.out 1).trans rfl⟩ (fun hHeld => ?_); refine with_tabW spec_loBox.tab5 spec_loBox.bits5 (fun HT_ HW_ => ?_)
       generalize w26.drew = w27 at BK575 BK576 BK579 BK580 BK582 HB hHeld ⊢
       refine pZ (i:=0) (N:=some 20) #[Tt,Ff,Ff,Ff,Ff,Ff,Ff,Ff,Ff,Ff,Ff,Ff] ?_
       refine pZ (i:=2) (N:=some 22) #[Tt,Ff,Tt,Ff,Ff,Ff,Ff,Ff,Ff,Ff,Ff,Ff] ?_
       refine pZ (i:=5) (N:=some 25) #[Tt,Ff,Tt,Ff,Ff,Tt,Ff,Ff,Ff,Ff,Ff,Ff] ?_
       refine pZ (i:=7) (N:=some 27) #[Tt,Ff,Tt,Ff,Ff,Tt,Ff,Tt,Ff,Ff,Ff,Ff] ?_
       refine tZ (i:=1) (N:=some 21) #[Tt,Tt,Tt,Ff,Ff,Tt,Ff,Tt,Ff,Ff,Ff,Ff] ?_
       refine tZ (i:=3) (N:=some 23) #[Tt,Tt,Tt,Tt,Ff,Tt,Ff,Tt,Ff,Ff,Ff,Ff] ?_
       refine tZ (i:=6) (N:=some 26) #[Tt,Tt,Tt,Tt,Ff,Tt,Tt,Tt,Ff,Ff,Ff,Ff] ?_
       refine tZ (i:=8) (N:=some 28) #[Tt,Tt,Tt,Tt,Ff,Tt,Tt,Tt,Tt,Ff,Ff,Ff] ?_
       refine one_ (i:=4) (N:=some 24) #[Tt,Tt,Tt,Tt,Tt,Tt,Tt,Tt,Tt,Ff,Ff,Ff] rfl rfl (one_of HT_.out (by kernel_rfl)) (by decide) (fun K hK => ?_)
       refine goes_ Tryd.func109 (by kernel_rfl) rfl #[.int .i64 x580000_1,.int .i64 ((rd_T84 l0 x16_1).f0)] (by rfl) rfl rfl ob_ ?_
       with_reducible refine (spec_l1Least.calls x580000_1 ((rd_T84 l0 x16_1).f0) t583 _ A16.out).mono ?_
       rintro e w' ⟨rfl,⟨nd,rfl⟩⟩
       refine ⟨_,rfl,?_⟩
       refine hK.out _ _ ⟨(bc_ BK579.out 0).trans rfl,(bc_ BK579.out 1).trans rfl,(bc_ BK582.out 0).trans rfl,(bc_ BK582.out 1).trans rfl⟩ (fun hHeld => ?_)
       clear hK K
       refine norm_ (a':=_) ap_ ?_
       refine one_ (i:=9) (N:=some 29) #[Tt,Tt,Tt,Tt,Tt,Tt,Tt,Tt,Tt,Tt,Ff,Ff] rfl rfl (one_of HT_.out (by kernel_rfl)) (by decide) (fun K hK => ?_)
       refine goes_ Tryd.func109 (by kernel_rfl) rfl #[.int .i64 x580001_1,.int .i64 ((rd_T84 l0 x16_1).f1)] (by rfl) rfl rfl ob_ ?_
       with_reducible refine (spec_l1Least.calls x580001_1 ((rd_T84 l0 x16_1).f1) t584 _ A17.out).mono ?_
       rintro e w' ⟨rfl,⟨nd,rfl⟩⟩
       refine ⟨_,rfl,?_⟩
       refine hK.out _ _ ⟨(bc_ BK579.out 0).trans rfl,(bc_ BK579.out 1).trans rfl,(bc_ BK582.out 0).trans rfl,(bc_ BK582.out 1).trans rfl⟩ (fun hHeld => ?_)
       clear hK K
       refine norm_ (a':=_) ap_ ?_
       refine pZ (i:=10) (N:=some 30) #[Tt,Tt,Tt,Tt,Tt,Tt,Tt,Tt,Tt,Tt,Tt,Ff] ?_
       refine last_ (i:=11) (N:=none) #[Tt,Tt,Tt,Tt,Tt,Tt,Tt,Tt,Tt,Tt,Tt,Tt] rfl rfl (one_of HT_.out (by kernel_rfl)) (by decide) (fun K hK => ?_)
       (try (rw [drewN_self w27]; generalize hq_:World.drewN w27 _ = w27; have n0_:=am_ (spec_loBox.blk_q BK575.out hq_); have n1_:=am_ (spec_loBox.blk_q BK576.out hq_); have n2_:=am_ (spec_loBox.blk_q BK579.out hq_); have n3_:=am_ (spec_loBox.blk_q BK580.out hq_); have n4_:=am_ (spec_loBox.blk_q BK582.out hq_); have n5_:=am_ (spec_loBox.below_q HB.out hq_); clear BK575 BK576 BK579 BK580 BK582 HB hq_; have BK575:=n0_; have BK576:=n1_; have BK579:=n2_; have BK580:=n3_; have BK582:=n4_; have HB:=n5_; clear n0_ n1_ n2_ n3_ n4_ n5_))
       (try (rw [drewN_self w27]; generalize hq_:World.drewN w27 _ = w27; have n0_:=am_ (spec_loBox.blk_q BK575.out hq_); have n1_:=am_ (spec_loBox.blk_q BK576.out hq_); have n2_:=am_ (spec_loBox.blk_q BK579.out hq_); have n3_:=am_ (spec_loBox.blk_q BK580.out hq_); have n4_:=am_ (spec_loBox.blk_q BK582.out hq_); have n5_:=am_ (spec_loBox.below_q HB.out hq_); clear BK575 BK576 BK579 BK580 BK582 HB hq_; have BK575:=n0_; have BK576:=n1_; have BK579:=n2_; have BK580:=n3_; have BK582:=n4_; have HB:=n5_; clear n0_ n1_ n2_ n3_ n4_ n5_))
       (try (rw [drewN_self w27]; generalize hq_:World.drewN w27 _ = w27; have n0_:=am_ (spec_loBox.blk_q BK575.out hq_); have n1_:=am_ (spec_loBox.blk_q BK576.out hq_); have n2_:=am_ (spec_loBox.blk_q BK579.out hq_); have n3_:=am_ (spec_loBox.blk_q BK580.out hq_); have n4_:=am_ (spec_loBox.blk_q BK582.out hq_); have n5_:=am_ (spec_loBox.below_q HB.out hq_); clear BK575 BK576 BK579 BK580 BK582 HB hq_; have BK575:=n0_; have BK576:=n1_; have BK579:=n2_; have BK580:=n3_; have BK582:=n4_; have HB:=n5_; clear n0_ n1_ n2_ n3_ n4_ n5_))
       have hs28:w27.cell? ⟨gb579,0,none⟩ = some (.int .i64 x580000_1):=(bc_ BK579.out 0).trans rfl
       have hfs28:=bz_ BK579.out 0
       have hns28_0:=NB575_579.out
       have hns28_1:=NB576_579.out
       have hns28_3:=NB580_579.out
       have hns28_4:=NB582_579.out
       have hms28_0:=NB579_575.out
       have hms28_1:=NB579_576.out
       have hms28_3:=NB579_580.out
       have hms28_4:=NB579_582.out
       have hs29:w27.cell? ⟨gb579,1,none⟩ = some (.int .i64 x580001_1):=(bc_ BK579.out 1).trans rfl
       have hfs29:=bz_ BK579.out 1
       have hns29_0:=NB575_579.out
       have hns29_1:=NB576_579.out
       have hns29_3:=NB580_579.out
       have hns29_4:=NB582_579.out
       have hms29_0:=NB579_575.out
       have hms29_1:=NB579_576.out
       have hms29_3:=NB579_580.out
       have hms29_4:=NB579_582.out
       refine skip_ (w1:=?_) (by rfl) rfl ?_ ?_
       rotate_left
       ·go_simp
        rfl
       refine hK.out _ _ ?_
       clear hK K
       refine done_ (done_of HT_.out (by kernel_rfl)) ?_
       try go_wp2
       have n0_:Aside0 (((w27.setCell ⟨gb579,0,none⟩ (.int .i64 t583)).setCell ⟨gb579,1,none⟩ (.int .i64 t584)).heap[gb575]? = some (.cells #[.int .i64 0,.int .i64 0] 84 (0,0))):=⟨bf2_ NB575_579.out NB575_579.out BK575.out⟩
       have n1_:Aside0 (((w27.setCell ⟨gb579,0,none⟩ (.int .i64 t583)).setCell ⟨gb579,1,none⟩ (.int .i64 t584)).heap[gb576]? = some (.cells #[.int .i64 0,.int .i64 0] 84 (0,0))):=⟨bf2_ NB576_579.out NB576_579.out BK576.out⟩
       have n2_:Aside0 (((w27.setCell ⟨gb579,0,none⟩ (.int .i64 t583)).setCell ⟨gb579,1,none⟩ (.int .i64 t584)).heap[gb579]? = some (.cells #[.int .i64 t583,.int .i64 t584] 84 (0,0))):=⟨by (with_reducible repeat (first | refine blk_drewN ?_ _ | refine blk_drew ?_ | refine blk_alloc ?_ _)); refine blk_put (cs:=#[.int .i64 t583,.int .i64 x580001_1]) ?_ 1 _ rfl; (with_reducible repeat (first | refine blk_drewN ?_ _ | refine blk_drew ?_ | refine blk_alloc ?_ _)); refine blk_put (cs:=#[.int .i64 x580000_1,.int .i64 x580001_1]) ?_ 0 _ rfl; (with_reducible repeat (first | refine blk_drewN ?_ _ | refine blk_drew ?_ | refine blk_alloc ?_ _)); exact BK579.out⟩
       have n3_:Aside0 (((w27.setCell ⟨gb579,0,none⟩ (.int .i64 t583)).setCell ⟨gb579,1,none⟩ (.int .i64 t584)).heap[gb580]? = some (.cells #[.int .i64 x581000_1,.int .i64 x581001_1] 84 (0,0))):=⟨bf2_ NB580_579.out NB580_579.out BK580.out⟩
       have n4_:Aside0 (((w27.setCell ⟨gb579,0,none⟩ (.int .i64 t583)).setCell ⟨gb579,1,none⟩ (.int .i64 t584)).heap[gb582]? = some (.cells #[.int .i64 ((rd_T84 l0 x16_1).f0),.int .i64 ((rd_T84 l0 x16_1).f1)] 84 (0,0))):=⟨bf2_ NB582_579.out NB582_579.out BK582.out⟩
       have n5_:Aside0 (Below w.heap.size w ((w27.setCell ⟨gb579,0,none⟩ (.int .i64 t583)).setCell ⟨gb579,1,none⟩ (.int .i64 t584))):=⟨bl5_ HB.out GE575.out GE576.out GE579.out GE580.out GE582.out⟩
       (try clear BK575)
       (try clear BK576)
       (try clear BK579)
       (try clear BK580)
       (try clear BK582)
       (try clear HB)
       generalize ((w27.setCell ⟨gb579,0,none⟩ (.int .i64 t583)).setCell ⟨gb579,1,none⟩ (.int .i64 t584)) = w30 at n0_ n1_ n2_ n3_ n4_ n5_ ⊢
       have BK575:=n0_
       have BK576:=n1_
       have BK579:=n2_
       have BK580:=n3_
       have BK582:=n4_
       have HB:=n5_
       clear n0_ n1_ n2_ n3_ n4_ n5_
       (try (rw [drewN_self w30]; generalize hq_:World.drewN w30 _ = w30; have n0_:Aside0 (w30.heap[gb575]? = some (.cells #[.int .i64 0,.int .i64 0] 84 (0,0))):=⟨by rw [← hq_]; exact (bk_ BK575.out)⟩; have n1_:Aside0 (w30.heap[gb576]? = some (.cells #[.int .i64 0,.int .i64 0] 84 (0,0))):=⟨by rw [← hq_]; exact (bk_ BK576.out)⟩; have n2_:Aside0 (w30.heap[gb579]? = some (.cells #[.int .i64 t583,.int .i64 t584] 84 (0,0))):=⟨by rw [← hq_]; exact (bk_ BK579.out)⟩; have n3_:Aside0 (w30.heap[gb580]? = some (.cells #[.int .i64 x581000_1,.int .i64 x581001_1] 84 (0,0))):=⟨by rw [← hq_]; exact (bk_ BK580.out)⟩; have n4_:Aside0 (w30.heap[gb582]? = some (.cells #[.int .i64 ((rd_T84 l0 x16_1).f0),.int .i64 ((rd_T84 l0 x16_1).f1)] 84 (0,0))):=⟨by rw [← hq_]; exact (bk_ BK582.out)⟩; have n5_:Aside0 (Below w.heap.size w w30):=⟨by rw [← hq_]; exact (bl5_ HB.out GE575.out GE576.out GE579.out GE580.out GE582.out)⟩; clear BK575 BK576 BK579 BK580 BK582 HB hq_; have BK575:=n0_; have BK576:=n1_; have BK579:=n2_; have BK580:=n3_; have BK582:=n4_; have HB:=n5_; clear n0_ n1_ n2_ n3_ n4_ n5_))
       have n0_:=am_ (blk_drew BK575.out)
       have n1_:=am_ (blk_drew BK576.out)
       have n2_:=am_ (blk_drew BK579.out)
       have n3_:=am_ (blk_drew BK580.out)
       have n4_:=am_ (blk_drew BK582.out)
       have n5_:=am_ (below_drew1 HB.out)
       clear BK575
       clear BK576
       clear BK579
       clear BK580
       clear BK582
       clear HB
       have BK575:=n0_
       have BK576:=n1_
       have BK579:=n2_
       have BK580:=n3_
       have BK582:=n4_
       have HB:=n5_
       clear n0_ n1_ n2_ n3_ n4_ n5_
       refine start_ (n:=12) (S:=fun w' => w'.cell? ⟨gb580,0,none⟩ = some (.int .i64 x581000_1) ∧ w'.cell? ⟨gb580,1,none⟩ = some (.int .i64 x581001_1) ∧ w'.cell? ⟨gb582,0,none⟩ = some (.int .i64 ((rd_T84 l0 x16_1).f0)) ∧ w'.cell? ⟨gb582,1,none⟩ = some (.int .i64 ((rd_T84 l0 x16_1).f1))) (ds:=[11]) #[Ff,Ff,Ff,Ff,Ff,Ff,Ff,Ff,Ff,Ff,Ff,Ff] (by kernel_rfl) rfl rfl ⟨(bc_ BK580.out 0).trans rfl,(bc_ BK580.out 1).trans rfl,(bc_ BK582.out 0).trans rfl,(bc_ BK582.out 1).trans rfl⟩ (fun hHeld => ?_); refine with_tabW spec_loBox.tab6 spec_loBox.bits6 (fun HT_ HW_ => ?_)
       generalize w30.drew = w31 at BK575 BK576 BK579 BK580 BK582 HB hHeld ⊢
       refine pZ (i:=0) (N:=some 31) #[Tt,Ff,Ff,Ff,Ff,Ff,Ff,Ff,Ff,Ff,Ff,Ff] ?_
       refine pZ (i:=2) (N:=some 33) #[Tt,Ff,Tt,Ff,Ff,Ff,Ff,Ff,Ff,Ff,Ff,Ff] ?_
       refine pZ (i:=5) (N:=some 36) #[Tt,Ff,Tt,Ff,Ff,Tt,Ff,Ff,Ff,Ff,Ff,Ff] ?_
       refine pZ (i:=7) (N:=some 38) #[Tt,Ff,Tt,Ff,Ff,Tt,Ff,Tt,Ff,Ff,Ff,Ff] ?_
       refine tZ (i:=1) (N:=some 32) #[Tt,Tt,Tt,Ff,Ff,Tt,Ff,Tt,Ff,Ff,Ff,Ff] ?_
       refine tZ (i:=3) (N:=some 34) #[Tt,Tt,Tt,Tt,Ff,Tt,Ff,Tt,Ff,Ff,Ff,Ff] ?_
       refine tZ (i:=6) (N:=some 37) #[Tt,Tt,Tt,Tt,Ff,Tt,Tt,Tt,Ff,Ff,Ff,Ff] ?_
       refine tZ (i:=8) (N:=some 39) #[Tt,Tt,Tt,Tt,Ff,Tt,Tt,Tt,Tt,Ff,Ff,Ff] ?_
       refine one_ (i:=4) (N:=some 35) #[Tt,Tt,Tt,Tt,Tt,Tt,Tt,Tt,Tt,Ff,Ff,Ff] rfl rfl (one_of HT_.out (by kernel_rfl)) (by decide) (fun K hK => ?_)
       refine goes_ Tryd.func110 (by kernel_rfl) rfl #[.int .i64 x581000_1,.int .i64 ((rd_T84 l0 x16_1).f0)] (by rfl) rfl rfl ob_ ?_
       with_reducible refine (spec_l1Most.calls x581000_1 ((rd_T84 l0 x16_1).f0) t585 _ A18.out).mono ?_
       rintro e w' ⟨rfl,⟨nd,rfl⟩⟩
       refine ⟨_,rfl,?_⟩
       refine hK.out _ _ ⟨(bc_ BK580.out 0).trans rfl,(bc_ BK580.out 1).trans rfl,(bc_ BK582.out 0).trans rfl,(bc_ BK582.out 1).trans rfl⟩ (fun hHeld => ?_)
       clear hK K
       refine norm_ (a':=_) ap_ ?_
       refine one_ (i:=9) (N:=some 40) #[Tt,Tt,Tt,Tt,Tt,Tt,Tt,Tt,Tt,Tt,Ff,Ff] rfl rfl (one_of HT_.out (by kernel_rfl)) (by decide) (fun K hK => ?_)
       refine goes_ Tryd.func110 (by kernel_rfl) rfl #[.int .i64 x581001_1,.int .i64 ((rd_T84 l0 x16_1).f1)] (by rfl) rfl rfl ob_ ?_
       with_reducible refine (spec_l1Most.calls x581001_1 ((rd_T84 l0 x16_1).f1) t586 _ A19.out).mono ?_
       rintro e w' ⟨rfl,⟨nd,rfl⟩⟩
       refine ⟨_,rfl,?_⟩
       refine hK.out _ _ ⟨(bc_ BK580.out 0).trans rfl,(bc_ BK580.out 1).trans rfl,(bc_ BK582.out 0).trans rfl,(bc_ BK582.out 1).trans rfl⟩ (fun hHeld => ?_)
       clear hK K
       refine norm_ (a':=_) ap_ ?_
       refine pZ (i:=10) (N:=some 41) #[Tt,Tt,Tt,Tt,Tt,Tt,Tt,Tt,Tt,Tt,Tt,Ff] ?_
       refine last_ (i:=11) (N:=none) #[Tt,Tt,Tt,Tt,Tt,Tt,Tt,Tt,Tt,Tt,Tt,Tt] rfl rfl (one_of HT_.out (by kernel_rfl)) (by decide) (fun K hK => ?_)
       (try (rw [drewN_self w31]; generalize hq_:World.drewN w31 _ = w31; have n0_:=am_ (spec_loBox.blk_q BK575.out hq_); have n1_:=am_ (spec_loBox.blk_q BK576.out hq_); have n2_:=am_ (spec_loBox.blk_q BK579.out hq_); have n3_:=am_ (spec_loBox.blk_q BK580.out hq_); have n4_:=am_ (spec_loBox.blk_q BK582.out hq_); have n5_:=am_ (spec_loBox.below_q HB.out hq_); clear BK575 BK576 BK579 BK580 BK582 HB hq_; have BK575:=n0_; have BK576:=n1_; have BK579:=n2_; have BK580:=n3_; have BK582:=n4_; have HB:=n5_; clear n0_ n1_ n2_ n3_ n4_ n5_))
       (try (rw [drewN_self w31]; generalize hq_:World.drewN w31 _ = w31; have n0_:=am_ (spec_loBox.blk_q BK575.out hq_); have n1_:=am_ (spec_loBox.blk_q BK576.out hq_); have n2_:=am_ (spec_loBox.blk_q BK579.out hq_); have n3_:=am_ (spec_loBox.blk_q BK580.out hq_); have n4_:=am_ (spec_loBox.blk_q BK582.out hq_); have n5_:=am_ (spec_loBox.below_q HB.out hq_); clear BK575 BK576 BK579 BK580 BK582 HB hq_; have BK575:=n0_; have BK576:=n1_; have BK579:=n2_; have BK580:=n3_; have BK582:=n4_; have HB:=n5_; clear n0_ n1_ n2_ n3_ n4_ n5_))
       (try (rw [drewN_self w31]; generalize hq_:World.drewN w31 _ = w31; have n0_:=am_ (spec_loBox.blk_q BK575.out hq_); have n1_:=am_ (spec_loBox.blk_q BK576.out hq_); have n2_:=am_ (spec_loBox.blk_q BK579.out hq_); have n3_:=am_ (spec_loBox.blk_q BK580.out hq_); have n4_:=am_ (spec_loBox.blk_q BK582.out hq_); have n5_:=am_ (spec_loBox.below_q HB.out hq_); clear BK575 BK576 BK579 BK580 BK582 HB hq_; have BK575:=n0_; have BK576:=n1_; have BK579:=n2_; have BK580:=n3_; have BK582:=n4_; have HB:=n5_; clear n0_ n1_ n2_ n3_ n4_ n5_))
       have hs32:w31.cell? ⟨gb580,0,none⟩ = some (.int .i64 x581000_1):=(bc_ BK580.out 0).trans rfl
       have hfs32:=bz_ BK580.out 0
       have hns32_0:=NB575_580.out
       have hns32_1:=NB576_580.out
       have hns32_2:=NB579_580.out
       have hns32_4:=NB582_580.out
       have hms32_0:=NB580_575.out
       have hms32_1:=NB580_576.out
       have hms32_2:=NB580_579.out
       have hms32_4:=NB580_582.out
       have hs33:w31.cell? ⟨gb580,1,none⟩ = some (.int .i64 x581001_1):=(bc_ BK580.out 1).trans rfl
       have hfs33:=bz_ BK580.out 1
       have hns33_0:=NB575_580.out
       have hns33_1:=NB576_580.out
       have hns33_2:=NB579_580.out
       have hns33_4:=NB582_580.out
       have hms33_0:=NB580_575.out
       have hms33_1:=NB580_576.out
       have hms33_2:=NB580_579.out
       have hms33_4:=NB580_582.out
       refine skip_ (w1:=?_) (by rfl) rfl ?_ ?_
       rotate_left
       ·go_simp
        rfl
       refine hK.out _ _ ?_
       clear hK K
       refine done_ (done_of HT_.out (by kernel_rfl)) ?_
       try go_wp2
       go_roundg k1
       case measure => have:=HK1.out; omega
       case rel => exact ⟨(wrap64 (x16_1 + 1)),(t583),(t584),(t585),(t586),rs_,H',⟨by have:=HK1.out; omega⟩,⟨bf2_ NB575_580.out NB575_580.out BK575.out⟩,⟨bf2_ NB576_580.out NB576_580.out BK576.out⟩,⟨bf2_ NB579_580.out NB579_580.out BK579.out⟩,⟨by (with_reducible repeat (first | refine blk_drewN ?_ _ | refine blk_drew ?_ | refine blk_alloc ?_ _)); refine blk_put (cs:=#[.int .i64 t585,.int .i64 x581001_1]) ?_ 1 _ rfl; (with_reducible repeat (first | refine blk_drewN ?_ _ | refine blk_drew ?_ | refine blk_alloc ?_ _)); refine blk_put (cs:=#[.int .i64 x581000_1,.int .i64 x581001_1]) ?_ 0 _ rfl; (with_reducible repeat (first | refine blk_drewN ?_ _ | refine blk_drew ?_ | refine blk_alloc ?_ _)); exact BK580.out⟩,⟨bl5_ HB.out GE575.out GE576.out GE579.out GE580.out GE582.out⟩⟩
      ·rw [if_neg c15] at H
       exact absurd H (by simp)
     ·rw [if_neg c14] at H
      exact absurd H (by simp)
    ·rw [if_neg c13] at H
     have c13b0:decide (x16_1 < (l0.length:Int)) = false:=decide_eq_false c13
     clear c13
     simp only [Option.some.injEq,Prod.mk.injEq] at H
     obtain ⟨rfl,rfl,rfl,rfl⟩:=H
     try go_wp2
     have n0_:=am_ (blk_drew BK575.out)
     have n1_:=am_ (blk_drew BK576.out)
     have n2_:=am_ (blk_drew BK579.out)
     have n3_:=am_ (blk_drew BK580.out)
     have n4_:=am_ (below_drew1 HB.out)
     clear BK575
     clear BK576
     clear BK579
     clear BK580
     clear HB
     have BK575:=n0_
     have BK576:=n1_
     have BK579:=n2_
     have BK580:=n3_
     have HB:=n4_
     clear n0_ n1_ n2_ n3_ n4_
     refine start_ (n:=4) (S:=fun w' => w'.cell? ⟨gb579,0,none⟩ = some (.int .i64 x580000_1) ∧ w'.cell? ⟨gb579,1,none⟩ = some (.int .i64 x580001_1) ∧ w'.cell? ⟨gb580,0,none⟩ = some (.int .i64 x581000_1) ∧ w'.cell? ⟨gb580,1,none⟩ = some (.int .i64 x581001_1)) (ds:=[]) #[Ff,Ff,Ff,Ff] (by kernel_rfl) rfl rfl ⟨(bc_ BK579.out 0).trans rfl,(bc_ BK579.out 1).trans rfl,(bc_ BK580.out 0).trans rfl,(bc_ BK580.out 1).trans rfl⟩ (fun hHeld => ?_)
     generalize wr.drew = w34 at BK575 BK576 BK579 BK580 HB hHeld ⊢
     refine take_ (i:=0) (N:=some 43) (v:=?_) (a':=?_) #[Tt,Ff,Ff,Ff] rfl rfl (by kernel_rfl) (fun _ _ _ h => h) (Or.inl ⟨by rfl,?_⟩) hHeld ?_ ?_
     rotate_left
     ·rintro w' ⟨s0,s1,s2,s3⟩
      go_simp
      with_reducible rfl
     rotate_left
     ·simp only [Act.put,List.setIfInBounds_toArray,List.set_cons_zero,List.set_cons_succ,i64_w,i32_w]
      rfl
     refine take_ (i:=1) (N:=some 44) (v:=?_) (a':=?_) #[Tt,Tt,Ff,Ff] rfl rfl (by kernel_rfl) (fun _ _ _ h => h) (Or.inl ⟨by rfl,?_⟩) hHeld ?_ ?_
     rotate_left
     ·rintro w' ⟨s0,s1,s2,s3⟩
      go_simp
      with_reducible rfl
     rotate_left
     ·simp only [Act.put,List.setIfInBounds_toArray,List.set_cons_zero,List.set_cons_succ,i64_w,i32_w]
      rfl
     refine one_ (i:=2) (N:=none) #[Tt,Tt,Tt,Ff] rfl rfl (by kernel_rfl) (by decide) (fun K hK => ?_)
     have hs35:w34.cell? ⟨gb575,0,none⟩ = some (.int .i64 0):=(bc_ BK575.out 0).trans rfl
     have hfs35:=bz_ BK575.out 0
     have hns35_1:=NB576_575.out
     have hns35_2:=NB579_575.out
     have hns35_3:=NB580_575.out
     have hms35_1:=NB575_576.out
     have hms35_2:=NB575_579.out
     have hms35_3:=NB575_580.out
     have hs36:w34.cell? ⟨gb575,1,none⟩ = some (.int .i64 0):=(bc_ BK575.out 1).trans rfl
     have hfs36:=bz_ BK575.out 1
     have hns36_1:=NB576_575.out
     have hns36_2:=NB579_575.out
     have hns36_3:=NB580_575.out
     have hms36_1:=NB575_576.out
     have hms36_2:=NB575_579.out
     have hms36_3:=NB575_580.out
     refine skip_ (w1:=?_) (by rfl) rfl ?_ ?_
     rotate_left
     ·go_simp
      rfl
     refine hK.out _ _ ⟨((cell_far (p:=⟨gb575,_,none⟩) NB579_575.out _).trans (((cell_far (p:=⟨gb575,_,none⟩) NB579_575.out _).trans (hHeld.1)))),((cell_far (p:=⟨gb575,_,none⟩) NB579_575.out _).trans (((cell_far (p:=⟨gb575,_,none⟩) NB579_575.out _).trans (hHeld.2.1)))),((cell_far (p:=⟨gb575,_,none⟩) NB580_575.out _).trans (((cell_far (p:=⟨gb575,_,none⟩) NB580_575.out _).trans (hHeld.2.2.1)))),((cell_far (p:=⟨gb575,_,none⟩) NB580_575.out _).trans (((cell_far (p:=⟨gb575,_,none⟩) NB580_575.out _).trans (hHeld.2.2.2))))⟩ (fun hHeld => ?_)
     clear hK K
     refine one_ (i:=3) (N:=none) #[Tt,Tt,Tt,Tt] rfl rfl (by kernel_rfl) (by decide) (fun K hK => ?_)
     have hs37:w34.cell? ⟨gb576,0,none⟩ = some (.int .i64 0):=(bc_ BK576.out 0).trans rfl
     have hfs37:=bz_ BK576.out 0
     have hns37_0:=NB575_576.out
     have hns37_2:=NB579_576.out
     have hns37_3:=NB580_576.out
     have hms37_0:=NB576_575.out
     have hms37_2:=NB576_579.out
     have hms37_3:=NB576_580.out
     have hs38:w34.cell? ⟨gb576,1,none⟩ = some (.int .i64 0):=(bc_ BK576.out 1).trans rfl
     have hfs38:=bz_ BK576.out 1
     have hns38_0:=NB575_576.out
     have hns38_2:=NB579_576.out
     have hns38_3:=NB580_576.out
     have hms38_0:=NB576_575.out
     have hms38_2:=NB576_579.out
     have hms38_3:=NB576_580.out
     refine skip_ (w1:=?_) (by rfl) rfl ?_ ?_
     rotate_left
     ·go_simp
      rfl
     refine hK.out _ _ ⟨((cell_far (p:=⟨gb576,_,none⟩) NB579_576.out _).trans (((cell_far (p:=⟨gb576,_,none⟩) NB579_576.out _).trans (hHeld.1)))),((cell_far (p:=⟨gb576,_,none⟩) NB579_576.out _).trans (((cell_far (p:=⟨gb576,_,none⟩) NB579_576.out _).trans (hHeld.2.1)))),((cell_far (p:=⟨gb576,_,none⟩) NB580_576.out _).trans (((cell_far (p:=⟨gb576,_,none⟩) NB580_576.out _).trans (hHeld.2.2.1)))),((cell_far (p:=⟨gb576,_,none⟩) NB580_576.out _).trans (((cell_far (p:=⟨gb576,_,none⟩) NB580_576.out _).trans (hHeld.2.2.2))))⟩ (fun hHeld => ?_)
     clear hK K
     refine done_ (by kernel_rfl) ?_
     try go_wp2
     refine bodyPost_ret (results_cc rfl _ _ gb575 gb576 84 84 #[.int .i64 x580000_1,.int .i64 x580001_1] #[.int .i64 x581000_1,.int .i64 x581001_1] (0,0) (0,0) _ _ rfl (by (with_reducible repeat (first | refine blk_drewN ?_ _ | refine blk_drew ?_ | refine blk_alloc ?_ _)); refine blk_far ?_ NB575_576.out _; (with_reducible repeat (first | refine blk_drewN ?_ _ | refine blk_drew ?_ | refine blk_alloc ?_ _)); refine blk_far ?_ NB575_576.out _; (with_reducible repeat (first | refine blk_drewN ?_ _ | refine blk_drew ?_ | refine blk_alloc ?_ _)); refine blk_put (cs:=#[.int .i64 x580000_1,.int .i64 0]) ?_ 1 _ rfl; (with_reducible repeat (first | refine blk_drewN ?_ _ | refine blk_drew ?_ | refine blk_alloc ?_ _)); refine blk_put (cs:=#[.int .i64 0,.int .i64 0]) ?_ 0 _ rfl; (with_reducible repeat (first | refine blk_drewN ?_ _ | refine blk_drew ?_ | refine blk_alloc ?_ _)); exact BK575.out) Tryd.underlying84 rfl (by kernel_rfl) rfl (by (with_reducible repeat (first | refine blk_drewN ?_ _ | refine blk_drew ?_ | refine blk_alloc ?_ _)); refine blk_put (cs:=#[.int .i64 x581000_1,.int .i64 0]) ?_ 1 _ rfl; (with_reducible repeat (first | refine blk_drewN ?_ _ | refine blk_drew ?_ | refine blk_alloc ?_ _)); refine blk_put (cs:=#[.int .i64 0,.int .i64 0]) ?_ 0 _ rfl; (with_reducible repeat (first | refine blk_drewN ?_ _ | refine blk_drew ?_ | refine blk_alloc ?_ _)); refine blk_far ?_ NB576_575.out _; (with_reducible repeat (first | refine blk_drewN ?_ _ | refine blk_drew ?_ | refine blk_alloc ?_ _)); refine blk_far ?_ NB576_575.out _; (with_reducible repeat (first | refine blk_drewN ?_ _ | refine blk_drew ?_ | refine blk_alloc ?_ _)); exact BK576.out) Tryd.underlying84 rfl (by kernel_rfl)) rfl ?_
     exact ⟨er_,bl4_ HB.out GE575.out GE576.out GE579.out GE580.out⟩
 ·rw [if_neg c2] at H
  exact absurd H (by simp)


def spec_fiUpTo.l0:Nat → Int → List Int → Int → Option (List Int)
  | 0,_,_,_ => none
  | k + 1,x0,x3,x4 => if x4 < x0 then (if x3.length < 17592186044416 then (spec_fiUpTo.l0 k x0 (x3 ++ [x4]) (wrap64 (x4 + 1))) else (none)) else (some x3)
def spec_fiUpTo.f (k:Nat) (a0:Int):Option (List Int):=spec_fiUpTo.l0 k a0 ([]:List Int) 0
theorem spec_fiUpTo.mono_l:∀ k,(∀ y0 y1 y2,LeO (spec_fiUpTo.l0 k y0 y1 y2) (spec_fiUpTo.l0 (k + 1) y0 y1 y2))
  | 0 => fun _ _ _ r h => by simp [spec_fiUpTo.l0] at h
  | k + 1 => by
    have ih0:=spec_fiUpTo.mono_l k
    · intro y0 y1 y2
      unfold spec_fiUpTo.l0
      repeat' first | (with_reducible first | exact ih0 _ _ _ | exact LeO.refl _ | exact LeO.none _ | refine LeO.ite ?_ ?_ | refine LeO.bind ?_ (fun _ => ?_)) | exact ih0 _ _ _
theorem spec_fiUpTo.mono:∀ a0 k,LeO (spec_fiUpTo.f k a0) (spec_fiUpTo.f (k + 1) a0):=by
  intro a0 k
  have ih0:=spec_fiUpTo.mono_l k
  unfold spec_fiUpTo.f
  repeat' first | (with_reducible first | exact ih0 _ _ _ | exact LeO.refl _ | exact LeO.none _ | refine LeO.ite ?_ ?_ | refine LeO.bind ?_ (fun _ => ?_)) | exact ih0 _ _ _
set_option maxHeartbeats 8000000 in
set_option maxRecDepth 100000 in
theorem spec_fiUpTo.calls (k:Nat) (a0:Int) (r:List Int) (w:World) (h:spec_fiUpTo.f k a0 = some r) :
    Calls Tryd.prog 136 #[.int .i64 a0] w fun e w' => ∃ v0_:Value,e = .returned (v0_) ∧ Kd.R (Kd.int .i64) 3 w' w.heap.size (fun _ => True) v0_ r ∧ Below w.heap.size w w':=by
  have HB:=am_ (Below.refl w.heap.size w)
  have H:(spec_fiUpTo.l0 k a0 ([]:List Int) 0) = some r:=h
  clear h
  have H':=am_ H
  clear H
  go_enter Tryd.func136,Tryd.ntmps136
  go_wp2
  go_loopg [3,4] k (fun kq v3 v4 w' => ∃ (x3_1:List Int) (x4_1:Int),v4 = .int .i64 x4_1 ∧ Aside0 (spec_fiUpTo.l0 kq a0 x3_1 x4_1 = some r) ∧ Aside0 (kq ≤ k) ∧ Aside0 (Kd.R (Kd.int .i64) 3 w' w.heap.size (fun _ => True) v3 x3_1) ∧ Aside0 (Below w.heap.size w w'))
  case atStart => exact ⟨(([]:List Int)),(0),rs_,H',⟨Nat.le_refl _⟩,⟨by first | exact Kd.R_nil _ _ _ _ _ | exact Kd.N_nil _ _ _ _ _ | exact Kd.V_nil _ _ _ _ _ | exact Kd.Q_nil _ _ _ _ _ | exact Kd.S_nil _ _ _ _ _⟩,⟨bl0_ HB.out⟩⟩
  case round =>
    clear H'
    try clear c1
    obtain ⟨x3_1,x4_1,rfl,HA,HK1,HO_3,HB⟩:=hrel
    cases gk with
    | zero => exact absurd HA.out (by simp [spec_fiUpTo.l0])
    | succ k1 =>
      have H:=HA.out
      clear HA
      simp only [spec_fiUpTo.l0] at H
      by_cases c2:x4_1 < a0
      · rw [if_pos c2] at H
        have c2b0:decide (x4_1 < a0) = true:=decide_eq_true c2
        clear c2
        by_cases c3:x3_1.length < 17592186044416
        · rw [if_pos c3] at H
          have LMc3:=am_ c3
          clear c3
          obtain ⟨y587,hy587⟩:∃ y_:List Int,y_ = (x3_1 ++ [x4_1]):=⟨_,rfl⟩
          replace H:(spec_fiUpTo.l0 k1 a0 y587 (wrap64 (x4_1 + 1))) = some r:=by first | (rw [hy587]; with_reducible exact H) | (have H2_:=(Option.bind_some _ _).symm.trans H; rw [hy587]; with_reducible exact H2_) | (have H2_:=(Option.bind_some _ _).symm.trans H; with_reducible exact H2_) | with_reducible exact H | (rw [hy587]; exact H) | exact H
          have Ny587:=am_ hy587
          clear hy587
          have H':=am_ H
          clear H
          go_wp2_with (first | ((with_reducible refine gate_builtin (b:=.append) (xs:=#[.tmp 10,.tmp 12]) rfl ?_); at_builtin; refine Kd.R_append (Kd.int .i64) (w0:=w) w.heap.size rfl (.tmp 10) (.tmp 12) 22 3 (.int .i64 0) 8 rfl Tryd.underlying22 info3 rfl (by decide) (by omega) u3 x3_1 x4_1 [.int .i64 x4_1] (fun _ => True) (fun _ => False) rfl rfl ?aP (fun _ hk => hk.elim) ?aF ?aO ?aB ?aS ?aL ?_; (case aP => exact rfl); (case aB => exact (bl0_ HB.out)); (case aF => exact (fun _ _ => trivial)); (case aO => exact (kr_ HO_3.out)); (case aS => exact (below_size (bl0_ HB.out))); (case aL => have:=LMc3.out; omega); intro v588 w4 ho hb hg hat; rw [← Ny587.out] at ho; have n0_:=am_ (hb); have n1_:=am_ (ho); clear HB; clear HO_3; have HB:=n0_; have HO589:=n1_; clear n0_ n1_; clear ho hb hg hat))
          go_roundg k1
          case measure => have:=HK1.out; omega
          case rel => exact ⟨(y587),(wrap64 (x4_1 + 1)),rs_,H',⟨by have:=HK1.out; omega⟩,⟨kr_ HO589.out⟩,⟨bl0_ HB.out⟩⟩
        · rw [if_neg c3] at H
          exact absurd H (by simp)
      · rw [if_neg c2] at H
        have c2b0:decide (x4_1 < a0) = false:=decide_eq_false c2
        clear c2
        obtain rfl:=Option.some.inj H
        go_wp2
        go_ret
        exact ⟨_,er_,by (with_reducible repeat (first | apply Kd.R_alloc | apply Kd.R_drewN | apply Kd.R_drew)); exact HO_3.out,bl0_ HB.out⟩


def spec_fiFull.f (k:Nat) (a0:Int) (a1:Int):Option (Int × Int × List Int × List Int):=(spec_fiUpTo.f k (wrap64 (a0 * (wrap64 (a1 + 1))))).bind fun t591 => ((spec_fiUpTo.f k (wrap64 ((wrap64 (a0 + 1)) * a1))).bind fun t594 => (some (a0,a1,t591,t594)))
theorem spec_fiFull.mono:∀ a0 a1 k,LeO (spec_fiFull.f k a0 a1) (spec_fiFull.f (k + 1) a0 a1):=by
  intro a0 a1 k
  unfold spec_fiFull.f
  repeat' first | (with_reducible first | exact spec_fiUpTo.mono _ _ | exact LeO.refl _ | exact LeO.none _ | refine LeO.ite ?_ ?_ | refine LeO.bind ?_ (fun _ => ?_)) | exact spec_fiUpTo.mono _ _
set_option maxHeartbeats 8000000 in
set_option maxRecDepth 100000 in
theorem spec_fiFull.calls (k:Nat) (a0:Int) (a1:Int) (r1:Int) (r2:Int) (r3:List Int) (r4:List Int) (w:World) (h:spec_fiFull.f k a0 a1 = some (r1,r2,r3,r4)) :
    Calls Tryd.prog 111 #[.int .i64 a0,.int .i64 a1] w fun e w' => ∃ v2_ v3_:Value,e = .returned (.agg #[.int .i64 r1,.int .i64 r2,v2_,v3_]) ∧ Kd.R (Kd.int .i64) 3 w' w.heap.size (fun k_ => some k_ ≠ (v3_:Value).ownBlock) v2_ r3 ∧ Kd.R (Kd.int .i64) 3 w' w.heap.size (fun k_ => some k_ ≠ (v2_:Value).ownBlock) v3_ r4 ∧ Below w.heap.size w w':=by
  have hu36:=Tryd.underlying36
  have HB:=am_ (Below.refl w.heap.size w)
  have H:((spec_fiUpTo.f k (wrap64 (a0 * (wrap64 (a1 + 1))))).bind fun t591 => ((spec_fiUpTo.f k (wrap64 ((wrap64 (a0 + 1)) * a1))).bind fun t594 => (some (a0,a1,t591,t594)))) = some (r1,r2,r3,r4):=h
  clear h
  replace H:=bi_ H
  obtain ⟨t591,A30,H⟩:=H
  replace H:((spec_fiUpTo.f k (wrap64 ((wrap64 (a0 + 1)) * a1))).bind fun t594 => (some (a0,a1,t591,t594))) = some (r1,r2,r3,r4):=H
  have A3:=am_ A30
  clear A30
  replace H:=bi_ H
  obtain ⟨t594,A40,H⟩:=H
  replace H:(some (a0,a1,t591,t594)) = some (r1,r2,r3,r4):=H
  have A4:=am_ A40
  clear A40
  simp only [Option.some.injEq,Prod.mk.injEq] at H
  obtain ⟨rfl,rfl,rfl,rfl⟩:=H
  go_enter Tryd.func111,Tryd.ntmps111
  go_wp2_with (first | ((with_reducible refine gate_dst (N:=4) rfl ?_); refine boxE_ (N:=4) (cs:=#[.int .i64 0,.int .i64 0,.slice none 0 0,.slice none 0 0]) (t:=36) ?_; intro gb590 hg w5 hbox hb; have n0_:=am_ (below_step (bl0_ HB.out) hb); have n1_:=am_ (hbox); have n2_:=am_ ((bs0_ hg HB.out:w.heap.size ≤ gb590)); have n3_:=am_ ((bs0_ hg HB.out:w.heap.size ≤ gb590)); clear HB; have HB:=n0_; have BK590:=n1_; have GW590:=n2_; have GE590:=n3_; clear n0_ n1_ n2_ n3_; clear hb hbox hg) | ((with_reducible refine gate_callee (f:=136) rfl ?_); refine goesL_ (some 11) rfl rfl Tryd.func136 (by kernel_rfl) rfl #[.int .i64 (wrap64 (a0 * (wrap64 (a1 + 1))))] rfl ob_ ?_; (with_reducible refine (spec_fiUpTo.calls k (wrap64 (a0 * (wrap64 (a1 + 1)))) t591 _ A3.out).mono ?_); rintro e w6 ⟨v592,rfl,ho0,hb⟩; refine ⟨_,rfl,?_⟩; have n0_:=am_ (Kd.R_lower ho0 (below_size (bl1_ HB.out GE590.out))); have n1_:=am_ (bb_ BK590.out hb); have n2_:=am_ (below_step (bl1_ HB.out GE590.out) hb); clear BK590; clear HB; have HO593:=n0_; have BK590:=n1_; have HB:=n2_; clear n0_ n1_ n2_; (try clear hb); (try clear hb2); (try clear hk); (try clear hi); (try clear ho0)) | ((with_reducible refine gate_callee (f:=136) rfl ?_); refine goesL_ (some 16) rfl rfl Tryd.func136 (by kernel_rfl) rfl #[.int .i64 (wrap64 ((wrap64 (a0 + 1)) * a1))] rfl ob_ ?_; (with_reducible refine (spec_fiUpTo.calls k (wrap64 ((wrap64 (a0 + 1)) * a1)) t594 _ A4.out).mono ?_); rintro e w7 ⟨v595,rfl,ho0,hb⟩; refine ⟨_,rfl,?_⟩; have n0_:=am_ (Kd.R_elder' (kr_ HO593.out) (Kd.R_base ho0) hb); have n1_:=am_ (Kd.R_lower (Kd.R_new' ho0 (Kd.R_lt (kr_ HO593.out))) (below_size (bl1_ HB.out GE590.out))); have n2_:=am_ (bb_ BK590.out hb); have n3_:=am_ (below_step (bl1_ HB.out GE590.out) hb); clear HO593; clear BK590; clear HB; have HO593:=n0_; have HO596:=n1_; have BK590:=n2_; have HB:=n3_; clear n0_ n1_ n2_ n3_; (try clear hb); (try clear hb2); (try clear hk); (try clear hi); (try clear ho0); obtain ⟨Ao8,co8,eo8⟩:=Kd.R_slice HO596.out; subst eo8; obtain ⟨Ao9,co9,eo9⟩:=Kd.R_slice HO593.out; subst eo9; have hcz10_0:w7.cell? ⟨gb590,0,none⟩ = some (.int .i64 0):=(bc_ BK590.out 0).trans rfl; have hcz10_1:w7.cell? ⟨gb590,1,none⟩ = some (.int .i64 0):=(bc_ BK590.out 1).trans rfl; have hcz10_2:w7.cell? ⟨gb590,2,none⟩ = some (.slice none 0 0):=(bc_ BK590.out 2).trans rfl; have hcz10_3:w7.cell? ⟨gb590,3,none⟩ = some (.slice none 0 0):=(bc_ BK590.out 3).trans rfl; have hfz10_0:=bz_ BK590.out 0; have hfz10_1:=bz_ BK590.out 1; have hfz10_2:=bz_ BK590.out 2; have hfz10_3:=bz_ BK590.out 3))
  refine bodyPost_ret (results_cell_row rfl _ _ gb590 36 #[.int .i64 a0,.int .i64 a1,.slice Ao9 t591.length co9,.slice Ao8 t594.length co8] (0,0) _ rfl (by (with_reducible repeat (first | refine blk_drewN ?_ _ | refine blk_drew ?_ | refine blk_alloc ?_ _)); refine blk_put (cs:=#[.int .i64 a0,.int .i64 a1,.slice Ao9 t591.length co9,.slice none 0 0]) ?_ 3 _ rfl; (with_reducible repeat (first | refine blk_drewN ?_ _ | refine blk_drew ?_ | refine blk_alloc ?_ _)); refine blk_put (cs:=#[.int .i64 a0,.int .i64 a1,.slice none 0 0,.slice none 0 0]) ?_ 2 _ rfl; (with_reducible repeat (first | refine blk_drewN ?_ _ | refine blk_drew ?_ | refine blk_alloc ?_ _)); refine blk_put (cs:=#[.int .i64 a0,.int .i64 0,.slice none 0 0,.slice none 0 0]) ?_ 1 _ rfl; (with_reducible repeat (first | refine blk_drewN ?_ _ | refine blk_drew ?_ | refine blk_alloc ?_ _)); refine blk_put (cs:=#[.int .i64 0,.int .i64 0,.slice none 0 0,.slice none 0 0]) ?_ 0 _ rfl; (with_reducible repeat (first | refine blk_drewN ?_ _ | refine blk_drew ?_ | refine blk_alloc ?_ _)); exact BK590.out) Tryd.underlying36 rfl (by kernel_rfl)) rfl ?_
  exact ⟨_,_,er_,by (with_reducible repeat (first | apply Kd.R_alloc | apply Kd.R_drewN | apply Kd.R_drew)); exact Kd.R_mono (Kd.R_far (p:=⟨gb590,3,none⟩) (Kd.R_far (p:=⟨gb590,2,none⟩) (Kd.R_far (p:=⟨gb590,1,none⟩) (Kd.R_far (p:=⟨gb590,0,none⟩) (Kd.R_types HO593.out BK590.out (by decide)) (fun _ hk => hk.2) (.int .i64 a0)) (fun _ hk => hk.2) (.int .i64 a1)) (fun _ hk => hk.2) (.slice Ao9 t591.length co9)) (fun _ hk => hk.2) (.slice Ao8 t594.length co8)) (fun _ hk => hk.1.2),by (with_reducible repeat (first | apply Kd.R_alloc | apply Kd.R_drewN | apply Kd.R_drew)); exact Kd.R_mono (Kd.R_far (p:=⟨gb590,3,none⟩) (Kd.R_far (p:=⟨gb590,2,none⟩) (Kd.R_far (p:=⟨gb590,1,none⟩) (Kd.R_far (p:=⟨gb590,0,none⟩) (Kd.R_types HO596.out BK590.out (by decide)) (fun _ hk => hk.2) (.int .i64 a0)) (fun _ hk => hk.2) (.int .i64 a1)) (fun _ hk => hk.2) (.slice Ao9 t591.length co9)) (fun _ hk => hk.2) (.slice Ao8 t594.length co8)) (fun _ hk => hk.1.2),bl1_ HB.out GE590.out⟩


def spec_fiEdge.f (a0_0:Int) (a0_1:Int) (l0_2:List Int) (l0_3:List Int) (a1:Bool) (a2:Int) (a3:Int):Option (Int × Bool):=if a1 = true then ((spec_l1In.f a2 0 a0_0).bind fun t306 => (if t306 = true then ((spec_l1In.f a3 0 (wrap64 (a0_1 - 1))).bind fun t307 => (some (wrap64 ((wrap64 (a3 * (wrap64 (a0_0 + 1)))) + a2),t307))) else (some (wrap64 ((wrap64 (a3 * (wrap64 (a0_0 + 1)))) + a2),false)))) else ((spec_l1In.f a2 0 (wrap64 (a0_0 - 1))).bind fun t308 => (if t308 = true then ((spec_l1In.f a3 0 a0_1).bind fun t309 => (some (wrap64 ((wrap64 (a3 * a0_0)) + a2),t309))) else (some (wrap64 ((wrap64 (a3 * a0_0)) + a2),false))))
set_option maxHeartbeats 8000000 in
set_option maxRecDepth 100000 in
theorem spec_fiEdge.calls (a0_0:Int) (a0_1:Int) (A0_2:Option Addr) (c0_2:Nat) (l0_2:List Int) (A0_3:Option Addr) (c0_3:Nat) (l0_3:List Int) (a1:Bool) (a2:Int) (a3:Int) (r1:Int) (r2:Bool) (w:World) (hr0_2:Kd.C (Kd.int .i64) w A0_2 l0_2.length l0_2) (hc0_2:l0_2.length ≤ c0_2) (hr0_3:Kd.C (Kd.int .i64) w A0_3 l0_3.length l0_3) (hc0_3:l0_3.length ≤ c0_3) (h:spec_fiEdge.f a0_0 a0_1 l0_2 l0_3 a1 a2 a3 = some (r1,r2)) :
  Calls Tryd.prog 150 #[.agg #[.int .i64 a0_0,.int .i64 a0_1,.slice A0_2 l0_2.length c0_2,.slice A0_3 l0_3.length c0_3],.bool a1,.int .i64 a2,.int .i64 a3] w fun e w' => e = .returned (.tuple #[.int .i64 r1,.bool r2]) ∧ Below w.heap.size w w':=by
 have hu36:=Tryd.underlying36
 have HR0_2:=am_ hr0_2
 have HC0_2:=am_ hc0_2
 clear hr0_2 hc0_2
 have HR0_3:=am_ hr0_3
 have HC0_3:=am_ hc0_3
 clear hr0_3 hc0_3
 have HB:=am_ (Below.refl w.heap.size w)
 have H:(if a1 = true then ((spec_l1In.f a2 0 a0_0).bind fun t306 => (if t306 = true then ((spec_l1In.f a3 0 (wrap64 (a0_1 - 1))).bind fun t307 => (some (wrap64 ((wrap64 (a3 * (wrap64 (a0_0 + 1)))) + a2),t307))) else (some (wrap64 ((wrap64 (a3 * (wrap64 (a0_0 + 1)))) + a2),false)))) else ((spec_l1In.f a2 0 (wrap64 (a0_0 - 1))).bind fun t308 => (if t308 = true then ((spec_l1In.f a3 0 a0_1).bind fun t309 => (some (wrap64 ((wrap64 (a3 * a0_0)) + a2),t309))) else (some (wrap64 ((wrap64 (a3 * a0_0)) + a2),false))))) = some (r1,r2):=h
 clear h
 by_cases c5:a1 = true
 ·subst c5
  have H1:((spec_l1In.f a2 0 a0_0).bind fun t306 => (if t306 = true then ((spec_l1In.f a3 0 (wrap64 (a0_1 - 1))).bind fun t307 => (some (wrap64 ((wrap64 (a3 * (wrap64 (a0_0 + 1)))) + a2),t307))) else (some (wrap64 ((wrap64 (a3 * (wrap64 (a0_0 + 1)))) + a2),false)))) = some (r1,r2):=by rw [if_pos rfl] at H; exact H
  clear H
  have H:=H1
  clear H1
  replace H:=bi_ H
  obtain ⟨t306,A60,H⟩:=H
  replace H:(if t306 = true then ((spec_l1In.f a3 0 (wrap64 (a0_1 - 1))).bind fun t307 => (some (wrap64 ((wrap64 (a3 * (wrap64 (a0_0 + 1)))) + a2),t307))) else (some (wrap64 ((wrap64 (a3 * (wrap64 (a0_0 + 1)))) + a2),false))) = some (r1,r2):=H
  have A6:=am_ A60
  clear A60
  by_cases c7:t306 = true
  ·subst c7
   have H1:((spec_l1In.f a3 0 (wrap64 (a0_1 - 1))).bind fun t307 => (some (wrap64 ((wrap64 (a3 * (wrap64 (a0_0 + 1)))) + a2),t307))) = some (r1,r2):=by rw [if_pos rfl] at H; exact H
   clear H
   have H:=H1
   clear H1
   replace H:=bi_ H
   obtain ⟨t307,A80,H⟩:=H
   replace H:(some (wrap64 ((wrap64 (a3 * (wrap64 (a0_0 + 1)))) + a2),t307)) = some (r1,r2):=H
   have A8:=am_ A80
   clear A80
   simp only [Option.some.injEq,Prod.mk.injEq] at H
   obtain ⟨rfl,rfl⟩:=H
   go_enter Tryd.func150,Tryd.ntmps150
   go_wp2_with (first | ((with_reducible refine gate_dst (N:=4) rfl ?_); refine boxE_ (N:=4) (cs:=#[.int .i64 a0_0,.int .i64 a0_1,.slice A0_2 l0_2.length c0_2,.slice A0_3 l0_3.length c0_3]) (t:=36) ?_; intro gb305 hg w9 hbox hb; have n0_:=am_ (below_step (bl0_ HB.out) hb); have n1_:=am_ (hbox); have n2_:=am_ ((bs0_ hg HB.out:w.heap.size ≤ gb305)); have n3_:=am_ ((bs0_ hg HB.out:w.heap.size ≤ gb305)); clear HB; have HB:=n0_; have BK305:=n1_; have GW305:=n2_; have GE305:=n3_; clear n0_ n1_ n2_ n3_; clear hb hbox hg; have hcz10_0:w9.cell? ⟨gb305,0,none⟩ = some (.int .i64 a0_0):=(bc_ BK305.out 0).trans rfl; have hcz10_1:w9.cell? ⟨gb305,1,none⟩ = some (.int .i64 a0_1):=(bc_ BK305.out 1).trans rfl; have hcz10_2:w9.cell? ⟨gb305,2,none⟩ = some (.slice A0_2 l0_2.length c0_2):=(bc_ BK305.out 2).trans rfl; have hcz10_3:w9.cell? ⟨gb305,3,none⟩ = some (.slice A0_3 l0_3.length c0_3):=(bc_ BK305.out 3).trans rfl; have hfz10_0:=bz_ BK305.out 0; have hfz10_1:=bz_ BK305.out 1; have hfz10_2:=bz_ BK305.out 2; have hfz10_3:=bz_ BK305.out 3) | (go_at_call 75; (with_reducible refine (spec_l1In.calls a2 0 a0_0 true _ A6.out).mono ?_); rintro e w' ⟨rfl,⟨nd,rfl⟩⟩; (try first | exact ⟨rfl,_,World.drewN_drewN _ _ _⟩ | exact ⟨rfl,_,Eq.trans (World.drewN_drewN _ _ _) (congrArg (World.drewN _) (Nat.add_assoc _ _ _))⟩)) | (go_at_call 75; (with_reducible refine (spec_l1In.calls a3 0 (wrap64 (a0_1 - 1)) t307 _ A8.out).mono ?_); rintro e w' ⟨rfl,⟨nd,rfl⟩⟩; (try first | exact ⟨rfl,_,World.drewN_drewN _ _ _⟩ | exact ⟨rfl,_,Eq.trans (World.drewN_drewN _ _ _) (congrArg (World.drewN _) (Nat.add_assoc _ _ _))⟩)))
   repeat (go_quiet (first | ((with_reducible refine gate_dst (N:=4) rfl ?_); refine boxE_ (N:=4) (cs:=#[.int .i64 a0_0,.int .i64 a0_1,.slice A0_2 l0_2.length c0_2,.slice A0_3 l0_3.length c0_3]) (t:=36) ?_; intro gb305 hg w9 hbox hb; have n0_:=am_ (below_step (bl0_ HB.out) hb); have n1_:=am_ (hbox); have n2_:=am_ ((bs0_ hg HB.out:w.heap.size ≤ gb305)); have n3_:=am_ ((bs0_ hg HB.out:w.heap.size ≤ gb305)); clear HB; have HB:=n0_; have BK305:=n1_; have GW305:=n2_; have GE305:=n3_; clear n0_ n1_ n2_ n3_; clear hb hbox hg; have hcz10_0:w9.cell? ⟨gb305,0,none⟩ = some (.int .i64 a0_0):=(bc_ BK305.out 0).trans rfl; have hcz10_1:w9.cell? ⟨gb305,1,none⟩ = some (.int .i64 a0_1):=(bc_ BK305.out 1).trans rfl; have hcz10_2:w9.cell? ⟨gb305,2,none⟩ = some (.slice A0_2 l0_2.length c0_2):=(bc_ BK305.out 2).trans rfl; have hcz10_3:w9.cell? ⟨gb305,3,none⟩ = some (.slice A0_3 l0_3.length c0_3):=(bc_ BK305.out 3).trans rfl; have hfz10_0:=bz_ BK305.out 0; have hfz10_1:=bz_ BK305.out 1; have hfz10_2:=bz_ BK305.out 2; have hfz10_3:=bz_ BK305.out 3) | (go_at_call 75; (with_reducible refine (spec_l1In.calls a2 0 a0_0 true _ A6.out).mono ?_); rintro e w' ⟨rfl,⟨nd,rfl⟩⟩; (try first | exact ⟨rfl,_,World.drewN_drewN _ _ _⟩ | exact ⟨rfl,_,Eq.trans (World.drewN_drewN _ _ _) (congrArg (World.drewN _) (Nat.add_assoc _ _ _))⟩)) | (go_at_call 75; (with_reducible refine (spec_l1In.calls a3 0 (wrap64 (a0_1 - 1)) t307 _ A8.out).mono ?_); rintro e w' ⟨rfl,⟨nd,rfl⟩⟩; (try first | exact ⟨rfl,_,World.drewN_drewN _ _ _⟩ | exact ⟨rfl,_,Eq.trans (World.drewN_drewN _ _ _) (congrArg (World.drewN _) (Nat.add_assoc _ _ _))⟩))); try go_wp2_with (first | ((with_reducible refine gate_dst (N:=4) rfl ?_); refine boxE_ (N:=4) (cs:=#[.int .i64 a0_0,.int .i64 a0_1,.slice A0_2 l0_2.length c0_2,.slice A0_3 l0_3.length c0_3]) (t:=36) ?_; intro gb305 hg w9 hbox hb; have n0_:=am_ (below_step (bl0_ HB.out) hb); have n1_:=am_ (hbox); have n2_:=am_ ((bs0_ hg HB.out:w.heap.size ≤ gb305)); have n3_:=am_ ((bs0_ hg HB.out:w.heap.size ≤ gb305)); clear HB; have HB:=n0_; have BK305:=n1_; have GW305:=n2_; have GE305:=n3_; clear n0_ n1_ n2_ n3_; clear hb hbox hg; have hcz10_0:w9.cell? ⟨gb305,0,none⟩ = some (.int .i64 a0_0):=(bc_ BK305.out 0).trans rfl; have hcz10_1:w9.cell? ⟨gb305,1,none⟩ = some (.int .i64 a0_1):=(bc_ BK305.out 1).trans rfl; have hcz10_2:w9.cell? ⟨gb305,2,none⟩ = some (.slice A0_2 l0_2.length c0_2):=(bc_ BK305.out 2).trans rfl; have hcz10_3:w9.cell? ⟨gb305,3,none⟩ = some (.slice A0_3 l0_3.length c0_3):=(bc_ BK305.out 3).trans rfl; have hfz10_0:=bz_ BK305.out 0; have hfz10_1:=bz_ BK305.out 1; have hfz10_2:=bz_ BK305.out 2; have hfz10_3:=bz_ BK305.out 3) | (go_at_call 75; (with_reducible refine (spec_l1In.calls a2 0 a0_0 true _ A6.out).mono ?_); rintro e w' ⟨rfl,⟨nd,rfl⟩⟩; (try first | exact ⟨rfl,_,World.drewN_drewN _ _ _⟩ | exact ⟨rfl,_,Eq.trans (World.drewN_drewN _ _ _) (congrArg (World.drewN _) (Nat.add_assoc _ _ _))⟩)) | (go_at_call 75; (with_reducible refine (spec_l1In.calls a3 0 (wrap64 (a0_1 - 1)) t307 _ A8.out).mono ?_); rintro e w' ⟨rfl,⟨nd,rfl⟩⟩; (try first | exact ⟨rfl,_,World.drewN_drewN _ _ _⟩ | exact ⟨rfl,_,Eq.trans (World.drewN_drewN _ _ _) (congrArg (World.drewN _) (Nat.add_assoc _ _ _))⟩))))
   go_ret2
   exact ⟨er_,bl1_ HB.out GE305.out⟩
  ·replace c7:=Bool.eq_false_iff.mpr c7
   subst c7
   have H1:(some (wrap64 ((wrap64 (a3 * (wrap64 (a0_0 + 1)))) + a2),false)) = some (r1,r2):=by rw [if_neg (show ¬ (false = true) by decide)] at H; exact H
   clear H
   have H:=H1
   clear H1
   simp only [Option.some.injEq,Prod.mk.injEq] at H
   obtain ⟨rfl,rfl⟩:=H
   go_enter Tryd.func150,Tryd.ntmps150
   go_wp2_with (first | ((with_reducible refine gate_dst (N:=4) rfl ?_); refine boxE_ (N:=4) (cs:=#[.int .i64 a0_0,.int .i64 a0_1,.slice A0_2 l0_2.length c0_2,.slice A0_3 l0_3.length c0_3]) (t:=36) ?_; intro gb305 hg w11 hbox hb; have n0_:=am_ (below_step (bl0_ HB.out) hb); have n1_:=am_ (hbox); have n2_:=am_ ((bs0_ hg HB.out:w.heap.size ≤ gb305)); have n3_:=am_ ((bs0_ hg HB.out:w.heap.size ≤ gb305)); clear HB; have HB:=n0_; have BK305:=n1_; have GW305:=n2_; have GE305:=n3_; clear n0_ n1_ n2_ n3_; clear hb hbox hg; have hcz12_0:w11.cell? ⟨gb305,0,none⟩ = some (.int .i64 a0_0):=(bc_ BK305.out 0).trans rfl; have hcz12_1:w11.cell? ⟨gb305,1,none⟩ = some (.int .i64 a0_1):=(bc_ BK305.out 1).trans rfl; have hcz12_2:w11.cell? ⟨gb305,2,none⟩ = some (.slice A0_2 l0_2.length c0_2):=(bc_ BK305.out 2).trans rfl; have hcz12_3:w11.cell? ⟨gb305,3,none⟩ = some (.slice A0_3 l0_3.length c0_3):=(bc_ BK305.out 3).trans rfl; have hfz12_0:=bz_ BK305.out 0; have hfz12_1:=bz_ BK305.out 1; have hfz12_2:=bz_ BK305.out 2; have hfz12_3:=bz_ BK305.out 3) | (go_at_call 75; (with_reducible refine (spec_l1In.calls a2 0 a0_0 false _ A6.out).mono ?_); rintro e w' ⟨rfl,⟨nd,rfl⟩⟩; (try first | exact ⟨rfl,_,World.drewN_drewN _ _ _⟩ | exact ⟨rfl,_,Eq.trans (World.drewN_drewN _ _ _) (congrArg (World.drewN _) (Nat.add_assoc _ _ _))⟩)))
   repeat (go_quiet (first | ((with_reducible refine gate_dst (N:=4) rfl ?_); refine boxE_ (N:=4) (cs:=#[.int .i64 a0_0,.int .i64 a0_1,.slice A0_2 l0_2.length c0_2,.slice A0_3 l0_3.length c0_3]) (t:=36) ?_; intro gb305 hg w11 hbox hb; have n0_:=am_ (below_step (bl0_ HB.out) hb); have n1_:=am_ (hbox); have n2_:=am_ ((bs0_ hg HB.out:w.heap.size ≤ gb305)); have n3_:=am_ ((bs0_ hg HB.out:w.heap.size ≤ gb305)); clear HB; have HB:=n0_; have BK305:=n1_; have GW305:=n2_; have GE305:=n3_; clear n0_ n1_ n2_ n3_; clear hb hbox hg; have hcz12_0:w11.cell? ⟨gb305,0,none⟩ = some (.int .i64 a0_0):=(bc_ BK305.out 0).trans rfl; have hcz12_1:w11.cell? ⟨gb305,1,none⟩ = some (.int .i64 a0_1):=(bc_ BK305.out 1).trans rfl; have hcz12_2:w11.cell? ⟨gb305,2,none⟩ = some (.slice A0_2 l0_2.length c0_2):=(bc_ BK305.out 2).trans rfl; have hcz12_3:w11.cell? ⟨gb305,3,none⟩ = some (.slice A0_3 l0_3.length c0_3):=(bc_ BK305.out 3).trans rfl; have hfz12_0:=bz_ BK305.out 0; have hfz12_1:=bz_ BK305.out 1; have hfz12_2:=bz_ BK305.out 2; have hfz12_3:=bz_ BK305.out 3) | (go_at_call 75; (with_reducible refine (spec_l1In.calls a2 0 a0_0 false _ A6.out).mono ?_); rintro e w' ⟨rfl,⟨nd,rfl⟩⟩; (try first | exact ⟨rfl,_,World.drewN_drewN _ _ _⟩ | exact ⟨rfl,_,Eq.trans (World.drewN_drewN _ _ _) (congrArg (World.drewN _) (Nat.add_assoc _ _ _))⟩))); try go_wp2_with (first | ((with_reducible refine gate_dst (N:=4) rfl ?_); refine boxE_ (N:=4) (cs:=#[.int .i64 a0_0,.int .i64 a0_1,.slice A0_2 l0_2.length c0_2,.slice A0_3 l0_3.length c0_3]) (t:=36) ?_; intro gb305 hg w11 hbox hb; have n0_:=am_ (below_step (bl0_ HB.out) hb); have n1_:=am_ (hbox); have n2_:=am_ ((bs0_ hg HB.out:w.heap.size ≤ gb305)); have n3_:=am_ ((bs0_ hg HB.out:w.heap.size ≤ gb305)); clear HB; have HB:=n0_; have BK305:=n1_; have GW305:=n2_; have GE305:=n3_; clear n0_ n1_ n2_ n3_; clear hb hbox hg; have hcz12_0:w11.cell? ⟨gb305,0,none⟩ = some (.int .i64 a0_0):=(bc_ BK305.out 0).trans rfl; have hcz12_1:w11.cell? ⟨gb305,1,none⟩ = some (.int .i64 a0_1):=(bc_ BK305.out 1).trans rfl; have hcz12_2:w11.cell? ⟨gb305,2,none⟩ = some (.slice A0_2 l0_2.length c0_2):=(bc_ BK305.out 2).trans rfl; have hcz12_3:w11.cell? ⟨gb305,3,none⟩ = some (.slice A0_3 l0_3.length c0_3):=(bc_ BK305.out 3).trans rfl; have hfz12_0:=bz_ BK305.out 0; have hfz12_1:=bz_ BK305.out 1; have hfz12_2:=bz_ BK305.out 2; have hfz12_3:=bz_ BK305.out 3) | (go_at_call 75; (with_reducible refine (spec_l1In.calls a2 0 a0_0 false _ A6.out).mono ?_); rintro e w' ⟨rfl,⟨nd,rfl⟩⟩; (try first | exact ⟨rfl,_,World.drewN_drewN _ _ _⟩ | exact ⟨rfl,_,Eq.trans (World.drewN_drewN _ _ _) (congrArg (World.drewN _) (Nat.add_assoc _ _ _))⟩))))
   go_ret2
   exact ⟨er_,bl1_ HB.out GE305.out⟩
 ·replace c5:=Bool.eq_false_iff.mpr c5
  subst c5
  have H1:((spec_l1In.f a2 0 (wrap64 (a0_0 - 1))).bind fun t308 => (if t308 = true then ((spec_l1In.f a3 0 a0_1).bind fun t309 => (some (wrap64 ((wrap64 (a3 * a0_0)) + a2),t309))) else (some (wrap64 ((wrap64 (a3 * a0_0)) + a2),false)))) = some (r1,r2):=by rw [if_neg (show ¬ (false = true) by decide)] at H; exact H
  clear H
  have H:=H1
  clear H1
  replace H:=bi_ H
  obtain ⟨t308,A130,H⟩:=H
  replace H:(if t308 = true then ((spec_l1In.f a3 0 a0_1).bind fun t309 => (some (wrap64 ((wrap64 (a3 * a0_0)) + a2),t309))) else (some (wrap64 ((wrap64 (a3 * a0_0)) + a2),false))) = some (r1,r2):=H
  have A13:=am_ A130
  clear A130
  by_cases c14:t308 = true
  ·subst c14
   have H1:((spec_l1In.f a3 0 a0_1).bind fun t309 => (some (wrap64 ((wrap64 (a3 * a0_0)) + a2),t309))) = some (r1,r2):=by rw [if_pos rfl] at H; exact H
   clear H
   have H:=H1
   clear H1
   replace H:=bi_ H
   obtain ⟨t309,A150,H⟩:=H
   replace H:(some (wrap64 ((wrap64 (a3 * a0_0)) + a2),t309)) = some (r1,r2):=H
   have A15:=am_ A150
   clear A150
   simp only [Option.some.injEq,Prod.mk.injEq] at H
   obtain ⟨rfl,rfl⟩:=H
   go_enter Tryd.func150,Tryd.ntmps150
   go_wp2_with (first | ((with_reducible refine gate_dst (N:=4) rfl ?_); refine boxE_ (N:=4) (cs:=#[.int .i64 a0_0,.int .i64 a0_1,.slice A0_2 l0_2.length c0_2,.slice A0_3 l0_3.length c0_3]) (t:=36) ?_; intro gb305 hg w16 hbox hb; have n0_:=am_ (below_step (bl0_ HB.out) hb); have n1_:=am_ (hbox); have n2_:=am_ ((bs0_ hg HB.out:w.heap.size ≤ gb305)); have n3_:=am_ ((bs0_ hg HB.out:w.heap.size ≤ gb305)); clear HB; have HB:=n0_; have BK305:=n1_; have GW305:=n2_; have GE305:=n3_; clear n0_ n1_ n2_ n3_; clear hb hbox hg; have hcz17_0:w16.cell? ⟨gb305,0,none⟩ = some (.int .i64 a0_0):=(bc_ BK305.out 0).trans rfl; have hcz17_1:w16.cell? ⟨gb305,1,none⟩ = some (.int .i64 a0_1):=(bc_ BK305.out 1).trans rfl; have hcz17_2:w16.cell? ⟨gb305,2,none⟩ = some (.slice A0_2 l0_2.length c0_2):=(bc_ BK305.out 2).trans rfl; have hcz17_3:w16.cell? ⟨gb305,3,none⟩ = some (.slice A0_3 l0_3.length c0_3):=(bc_ BK305.out 3).trans rfl; have hfz17_0:=bz_ BK305.out 0; have hfz17_1:=bz_ BK305.out 1; have hfz17_2:=bz_ BK305.out 2; have hfz17_3:=bz_ BK305.out 3) | (go_at_call 75; (with_reducible refine (spec_l1In.calls a2 0 (wrap64 (a0_0 - 1)) true _ A13.out).mono ?_); rintro e w' ⟨rfl,⟨nd,rfl⟩⟩; (try first | exact ⟨rfl,_,World.drewN_drewN _ _ _⟩ | exact ⟨rfl,_,Eq.trans (World.drewN_drewN _ _ _) (congrArg (World.drewN _) (Nat.add_assoc _ _ _))⟩)) | (go_at_call 75; (with_reducible refine (spec_l1In.calls a3 0 a0_1 t309 _ A15.out).mono ?_); rintro e w' ⟨rfl,⟨nd,rfl⟩⟩; (try first | exact ⟨rfl,_,World.drewN_drewN _ _ _⟩ | exact ⟨rfl,_,Eq.trans (World.drewN_drewN _ _ _) (congrArg (World.drewN _) (Nat.add_assoc _ _ _))⟩)))
   repeat (go_quiet (first | ((with_reducible refine gate_dst (N:=4) rfl ?_); refine boxE_ (N:=4) (cs:=#[.int .i64 a0_0,.int .i64 a0_1,.slice A0_2 l0_2.length c0_2,.slice A0_3 l0_3.length c0_3]) (t:=36) ?_; intro gb305 hg w16 hbox hb; have n0_:=am_ (below_step (bl0_ HB.out) hb); have n1_:=am_ (hbox); have n2_:=am_ ((bs0_ hg HB.out:w.heap.size ≤ gb305)); have n3_:=am_ ((bs0_ hg HB.out:w.heap.size ≤ gb305)); clear HB; have HB:=n0_; have BK305:=n1_; have GW305:=n2_; have GE305:=n3_; clear n0_ n1_ n2_ n3_; clear hb hbox hg; have hcz17_0:w16.cell? ⟨gb305,0,none⟩ = some (.int .i64 a0_0):=(bc_ BK305.out 0).trans rfl; have hcz17_1:w16.cell? ⟨gb305,1,none⟩ = some (.int .i64 a0_1):=(bc_ BK305.out 1).trans rfl; have hcz17_2:w16.cell? ⟨gb305,2,none⟩ = some (.slice A0_2 l0_2.length c0_2):=(bc_ BK305.out 2).trans rfl; have hcz17_3:w16.cell? ⟨gb305,3,none⟩ = some (.slice A0_3 l0_3.length c0_3):=(bc_ BK305.out 3).trans rfl; have hfz17_0:=bz_ BK305.out 0; have hfz17_1:=bz_ BK305.out 1; have hfz17_2:=bz_ BK305.out 2; have hfz17_3:=bz_ BK305.out 3) | (go_at_call 75; (with_reducible refine (spec_l1In.calls a2 0 (wrap64 (a0_0 - 1)) true _ A13.out).mono ?_); rintro e w' ⟨rfl,⟨nd,rfl⟩⟩; (try first | exact ⟨rfl,_,World.drewN_drewN _ _ _⟩ | exact ⟨rfl,_,Eq.trans (World.drewN_drewN _ _ _) (congrArg (World.drewN _) (Nat.add_assoc _ _ _))⟩)) | (go_at_call 75; (with_reducible refine (spec_l1In.calls a3 0 a0_1 t309 _ A15.out).mono ?_); rintro e w' ⟨rfl,⟨nd,rfl⟩⟩; (try first | exact ⟨rfl,_,World.drewN_drewN _ _ _⟩ | exact ⟨rfl,_,Eq.trans (World.drewN_drewN _ _ _) (congrArg (World.drewN _) (Nat.add_assoc _ _ _))⟩))); try go_wp2_with (first | ((with_reducible refine gate_dst (N:=4) rfl ?_); refine boxE_ (N:=4) (cs:=#[.int .i64 a0_0,.int .i64 a0_1,.slice A0_2 l0_2.length c0_2,.slice A0_3 l0_3.length c0_3]) (t:=36) ?_; intro gb305 hg w16 hbox hb; have n0_:=am_ (below_step (bl0_ HB.out) hb); have n1_:=am_ (hbox); have n2_:=am_ ((bs0_ hg HB.out:w.heap.size ≤ gb305)); have n3_:=am_ ((bs0_ hg HB.out:w.heap.size ≤ gb305)); clear HB; have HB:=n0_; have BK305:=n1_; have GW305:=n2_; have GE305:=n3_; clear n0_ n1_ n2_ n3_; clear hb hbox hg; have hcz17_0:w16.cell? ⟨gb305,0,none⟩ = some (.int .i64 a0_0):=(bc_ BK305.out 0).trans rfl; have hcz17_1:w16.cell? ⟨gb305,1,none⟩ = some (.int .i64 a0_1):=(bc_ BK305.out 1).trans rfl; have hcz17_2:w16.cell? ⟨gb305,2,none⟩ = some (.slice A0_2 l0_2.length c0_2):=(bc_ BK305.out 2).trans rfl; have hcz17_3:w16.cell? ⟨gb305,3,none⟩ = some (.slice A0_3 l0_3.length c0_3):=(bc_ BK305.out 3).trans rfl; have hfz17_0:=bz_ BK305.out 0; have hfz17_1:=bz_ BK305.out 1; have hfz17_2:=bz_ BK305.out 2; have hfz17_3:=bz_ BK305.out 3) | (go_at_call 75; (with_reducible refine (spec_l1In.calls a2 0 (wrap64 (a0_0 - 1)) true _ A13.out).mono ?_); rintro e w' ⟨rfl,⟨nd,rfl⟩⟩; (try first | exact ⟨rfl,_,World.drewN_drewN _ _ _⟩ | exact ⟨rfl,_,Eq.trans (World.drewN_drewN _ _ _) (congrArg (World.drewN _) (Nat.add_assoc _ _ _))⟩)) | (go_at_call 75; (with_reducible refine (spec_l1In.calls a3 0 a0_1 t309 _ A15.out).mono ?_); rintro e w' ⟨rfl,⟨nd,rfl⟩⟩; (try first | exact ⟨rfl,_,World.drewN_drewN _ _ _⟩ | exact ⟨rfl,_,Eq.trans (World.drewN_drewN _ _ _) (congrArg (World.drewN _) (Nat.add_assoc _ _ _))⟩))))
   go_ret2
   exact ⟨er_,bl1_ HB.out GE305.out⟩
  ·replace c14:=Bool.eq_false_iff.mpr c14
   subst c14
   have H1:(some (wrap64 ((wrap64 (a3 * a0_0)) + a2),false)) = some (r1,r2):=by rw [if_neg (show ¬ (false = true) by decide)] at H; exact H
   clear H
   have H:=H1
   clear H1
   simp only [Option.some.injEq,Prod.mk.injEq] at H
   obtain ⟨rfl,rfl⟩:=H
   go_enter Tryd.func150,Tryd.ntmps150
   go_wp2_with (first | ((with_reducible refine gate_dst (N:=4) rfl ?_); refine boxE_ (N:=4) (cs:=#[.int .i64 a0_0,.int .i64 a0_1,.slice A0_2 l0_2.length c0_2,.slice A0_3 l0_3.length c0_3]) (t:=36) ?_; intro gb305 hg w18 hbox hb; have n0_:=am_ (below_step (bl0_ HB.out) hb); have n1_:=am_ (hbox); have n2_:=am_ ((bs0_ hg HB.out:w.heap.size ≤ gb305)); have n3_:=am_ ((bs0_ hg HB.out:w.heap.size ≤ gb305)); clear HB; have HB:=n0_; have BK305:=n1_; have GW305:=n2_; have GE305:=n3_; clear n0_ n1_ n2_ n3_; clear hb hbox hg; have hcz19_0:w18.cell? ⟨gb305,0,none⟩ = some (.int .i64 a0_0):=(bc_ BK305.out 0).trans rfl; have hcz19_1:w18.cell? ⟨gb305,1,none⟩ = some (.int .i64 a0_1):=(bc_ BK305.out 1).trans rfl; have hcz19_2:w18.cell? ⟨gb305,2,none⟩ = some (.slice A0_2 l0_2.length c0_2):=(bc_ BK305.out 2).trans rfl; have hcz19_3:w18.cell? ⟨gb305,3,none⟩ = some (.slice A0_3 l0_3.length c0_3):=(bc_ BK305.out 3).trans rfl; have hfz19_0:=bz_ BK305.out 0; have hfz19_1:=bz_ BK305.out 1; have hfz19_2:=bz_ BK305.out 2; have hfz19_3:=bz_ BK305.out 3) | (go_at_call 75; (with_reducible refine (spec_l1In.calls a2 0 (wrap64 (a0_0 - 1)) false _ A13.out).mono ?_); rintro e w' ⟨rfl,⟨nd,rfl⟩⟩; (try first | exact ⟨rfl,_,World.drewN_drewN _ _ _⟩ | exact ⟨rfl,_,Eq.trans (World.drewN_drewN _ _ _) (congrArg (World.drewN _) (Nat.add_assoc _ _ _))⟩)))
   repeat (go_quiet (first | ((with_reducible refine gate_dst (N:=4) rfl ?_); refine boxE_ (N:=4) (cs:=#[.int .i64 a0_0,.int .i64 a0_1,.slice A0_2 l0_2.length c0_2,.slice A0_3 l0_3.length c0_3]) (t:=36) ?_; intro gb305 hg w18 hbox hb; have n0_:=am_ (below_step (bl0_ HB.out) hb); have n1_:=am_ (hbox); have n2_:=am_ ((bs0_ hg HB.out:w.heap.size ≤ gb305)); have n3_:=am_ ((bs0_ hg HB.out:w.heap.size ≤ gb305)); clear HB; have HB:=n0_; have BK305:=n1_; have GW305:=n2_; have GE305:=n3_; clear n0_ n1_ n2_ n3_; clear hb hbox hg; have hcz19_0:w18.cell? ⟨gb305,0,none⟩ = some (.int .i64 a0_0):=(bc_ BK305.out 0).trans rfl; have hcz19_1:w18.cell? ⟨gb305,1,none⟩ = some (.int .i64 a0_1):=(bc_ BK305.out 1).trans rfl; have hcz19_2:w18.cell? ⟨gb305,2,none⟩ = some (.slice A0_2 l0_2.length c0_2):=(bc_ BK305.out 2).trans rfl; have hcz19_3:w18.cell? ⟨gb305,3,none⟩ = some (.slice A0_3 l0_3.length c0_3):=(bc_ BK305.out 3).trans rfl; have hfz19_0:=bz_ BK305.out 0; have hfz19_1:=bz_ BK305.out 1; have hfz19_2:=bz_ BK305.out 2; have hfz19_3:=bz_ BK305.out 3) | (go_at_call 75; (with_reducible refine (spec_l1In.calls a2 0 (wrap64 (a0_0 - 1)) false _ A13.out).mono ?_); rintro e w' ⟨rfl,⟨nd,rfl⟩⟩; (try first | exact ⟨rfl,_,World.drewN_drewN _ _ _⟩ | exact ⟨rfl,_,Eq.trans (World.drewN_drewN _ _ _) (congrArg (World.drewN _) (Nat.add_assoc _ _ _))⟩))); try go_wp2_with (first | ((with_reducible refine gate_dst (N:=4) rfl ?_); refine boxE_ (N:=4) (cs:=#[.int .i64 a0_0,.int .i64 a0_1,.slice A0_2 l0_2.length c0_2,.slice A0_3 l0_3.length c0_3]) (t:=36) ?_; intro gb305 hg w18 hbox hb; have n0_:=am_ (below_step (bl0_ HB.out) hb); have n1_:=am_ (hbox); have n2_:=am_ ((bs0_ hg HB.out:w.heap.size ≤ gb305)); have n3_:=am_ ((bs0_ hg HB.out:w.heap.size ≤ gb305)); clear HB; have HB:=n0_; have BK305:=n1_; have GW305:=n2_; have GE305:=n3_; clear n0_ n1_ n2_ n3_; clear hb hbox hg; have hcz19_0:w18.cell? ⟨gb305,0,none⟩ = some (.int .i64 a0_0):=(bc_ BK305.out 0).trans rfl; have hcz19_1:w18.cell? ⟨gb305,1,none⟩ = some (.int .i64 a0_1):=(bc_ BK305.out 1).trans rfl; have hcz19_2:w18.cell? ⟨gb305,2,none⟩ = some (.slice A0_2 l0_2.length c0_2):=(bc_ BK305.out 2).trans rfl; have hcz19_3:w18.cell? ⟨gb305,3,none⟩ = some (.slice A0_3 l0_3.length c0_3):=(bc_ BK305.out 3).trans rfl; have hfz19_0:=bz_ BK305.out 0; have hfz19_1:=bz_ BK305.out 1; have hfz19_2:=bz_ BK305.out 2; have hfz19_3:=bz_ BK305.out 3) | (go_at_call 75; (with_reducible refine (spec_l1In.calls a2 0 (wrap64 (a0_0 - 1)) false _ A13.out).mono ?_); rintro e w' ⟨rfl,⟨nd,rfl⟩⟩; (try first | exact ⟨rfl,_,World.drewN_drewN _ _ _⟩ | exact ⟨rfl,_,Eq.trans (World.drewN_drewN _ _ _) (congrArg (World.drewN _) (Nat.add_assoc _ _ _))⟩))))
   go_ret2
   exact ⟨er_,bl1_ HB.out GE305.out⟩


def spec_l1Has.l0:Nat → Int → List Int → Int → Int → Option (Bool)
  | 0,_,_,_,_ => none
  | k + 1,x1,x7,x8,x9 => if x9 < x8 then (if 0 ≤ x9 then (if x9 < (x7.length:Int) then (if (rd x7 x9) = x1 then (some true) else (spec_l1Has.l0 k x1 x7 x8 (wrap64 (x9 + 1)))) else (none)) else (none)) else (some false)
def spec_l1Has.f (k:Nat) (l0:List Int) (a1:Int):Option (Bool):=spec_l1Has.l0 k a1 l0 (l0.length:Int) 0
theorem spec_l1Has.mono_l:∀ k,(∀ y0 y1 y2 y3,LeO (spec_l1Has.l0 k y0 y1 y2 y3) (spec_l1Has.l0 (k + 1) y0 y1 y2 y3))
  | 0 => fun _ _ _ _ r h => by simp [spec_l1Has.l0] at h
  | k + 1 => by
    have ih0:=spec_l1Has.mono_l k
    · intro y0 y1 y2 y3
      unfold spec_l1Has.l0
      repeat' first | (with_reducible first | exact ih0 _ _ _ _ | exact LeO.refl _ | exact LeO.none _ | refine LeO.ite ?_ ?_ | refine LeO.bind ?_ (fun _ => ?_)) | exact ih0 _ _ _ _
theorem spec_l1Has.mono:∀ a0 a1 k,LeO (spec_l1Has.f k a0 a1) (spec_l1Has.f (k + 1) a0 a1):=by
  intro a0 a1 k
  have ih0:=spec_l1Has.mono_l k
  unfold spec_l1Has.f
  repeat' first | (with_reducible first | exact ih0 _ _ _ _ | exact LeO.refl _ | exact LeO.none _ | refine LeO.ite ?_ ?_ | refine LeO.bind ?_ (fun _ => ?_)) | exact ih0 _ _ _ _
set_option maxHeartbeats 8000000 in
set_option maxRecDepth 100000 in
theorem spec_l1Has.calls (k:Nat) (A0:Option Addr) (c0:Nat) (l0:List Int) (a1:Int) (r:Bool) (w:World) (hr0:Kd.C (Kd.int .i64) w A0 l0.length l0) (hc0:l0.length ≤ c0) (h:spec_l1Has.f k l0 a1 = some r) :
    Calls Tryd.prog 151 #[.slice A0 l0.length c0,.int .i64 a1] w fun e w' => e = .returned (.bool r) ∧ Drawn0 w w':=by
  have HR0:=am_ hr0
  have HC0:=am_ hc0
  clear hr0 hc0
  have H:(spec_l1Has.l0 k a1 l0 (l0.length:Int) 0) = some r:=h
  clear h
  have H':=am_ H
  clear H
  go_enter Tryd.func151,Tryd.ntmps151
  go_wp2
  go_loopg [9] k (fun kq v9 w' => ∃ (x9_1:Int),v9 = .int .i64 x9_1 ∧ Aside0 (spec_l1Has.l0 kq a1 l0 (l0.length:Int) x9_1 = some r) ∧ Aside0 (kq ≤ k) ∧ Drawn0 w w')
  case atStart => exact ⟨(0),rs_,H',⟨Nat.le_refl _⟩,by repeat (first | exact Drawn0.refl _ | apply Drawn0.step)⟩
  case round =>
    clear H'
    try clear c1
    try clear p2
    obtain ⟨x9_1,rfl,HA,HK1,⟨m1,rfl⟩⟩:=hrel
    cases gk with
    | zero => exact absurd HA.out (by simp [spec_l1Has.l0])
    | succ k1 =>
      have H:=HA.out
      clear HA
      simp only [spec_l1Has.l0] at H
      by_cases c3:x9_1 < (l0.length:Int)
      · rw [if_pos c3] at H
        have c3b0:decide (x9_1 < (l0.length:Int)) = true:=decide_eq_true c3
        clear c3
        by_cases c4:0 ≤ x9_1
        · rw [if_pos c4] at H
          have c4b0:decide (0 ≤ x9_1) = true:=decide_eq_true c4
          clear c4
          by_cases c5:x9_1 < (l0.length:Int)
          · rw [if_pos c5] at H
            have c5b0:decide (x9_1 < (l0.length:Int)) = true:=decide_eq_true c5
            clear c5
            by_cases c6:(rd l0 x9_1) = a1
            · rw [if_pos c6] at H
              have c6b0:((rd l0 x9_1) == a1) = true:=beq_iff_eq.mpr c6
              have c6b1:((rd l0 x9_1) != a1) = false:=bne_eq_false_iff_eq.mpr c6
              clear c6
              obtain rfl:=Option.some.inj H
              have p310:0 ≤ (x9_1:Int):=of_decide_eq_true as_
              have q310:x9_1 < (l0.length:Int):=of_decide_eq_true as_
              obtain ⟨ad310,e310,hx310_0⟩:=Kd.at_int HR0.out x9_1 p310 q310
              cases e310
              replace p310:=eq_true p310
              replace q310:=eq_true q310
              go_wp2
              go_ret
              exact ⟨by first | rfl | (simp; done) | (simp [*]; done),by repeat (first | exact Drawn0.refl _ | apply Drawn0.step)⟩
            · rw [if_neg c6] at H
              have c6b0:((rd l0 x9_1) == a1) = false:=beq_eq_false_iff_ne.mpr c6
              have c6b1:((rd l0 x9_1) != a1) = true:=bne_iff_ne.mpr c6
              have H':=am_ H
              clear H
              have p310:0 ≤ (x9_1:Int):=of_decide_eq_true as_
              have q310:x9_1 < (l0.length:Int):=of_decide_eq_true as_
              obtain ⟨ad310,e310,hx310_0⟩:=Kd.at_int HR0.out x9_1 p310 q310
              cases e310
              replace p310:=eq_true p310
              replace q310:=eq_true q310
              go_wp2
              go_roundg k1
              case measure => have:=HK1.out; omega
              case rel => exact ⟨(wrap64 (x9_1 + 1)),rs_,H',⟨by have:=HK1.out; omega⟩,by repeat (first | exact Drawn0.refl _ | apply Drawn0.step)⟩
          · rw [if_neg c5] at H
            exact absurd H (by simp)
        · rw [if_neg c4] at H
          exact absurd H (by simp)
      · rw [if_neg c3] at H
        have c3b0:decide (x9_1 < (l0.length:Int)) = false:=decide_eq_false c3
        clear c3
        obtain rfl:=Option.some.inj H
        go_wp2
        go_ret
        exact ⟨by first | rfl | (simp; done) | (simp [*]; done),by repeat (first | exact Drawn0.refl _ | apply Drawn0.step)⟩

end Go.Proofs.YtehjfaddhmdicaaDoor.P
