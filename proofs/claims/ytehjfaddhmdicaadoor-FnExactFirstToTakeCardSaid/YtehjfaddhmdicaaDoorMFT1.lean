/- For every input the law FnExactFirstToTake answers true: the program's FirstToTake tells what the reference's FirstToTake tells; no condition. (part 1 of the proof; the words of the kit's print tool and the texts of this seat, merged by a program) -/
import Derived.ArgAppend
import Derived.Below
import Derived.BigQuiet
import Derived.Deep.AppendLies
import Derived.Deep.CutBlock
import Derived.Deep.DeepCutAuto
import Derived.Deep.Draws
import Derived.Deep.LoopGhost
import Derived.Deep.OwnRows
import Derived.Deep.QuietTactic
import Derived.Deep.RegionHeld3
import Derived.DeepKeys4
import Derived.IntWalk
import Derived.KernelRfl
import Derived.Laws.BitsLemmas
import Derived.Laws.BytesArg
import Derived.Laws.IdiomCopy
import Derived.Laws.MakeOwn
import Derived.Laws.OwnMore
import Derived.Laws.Rows
import Derived.Laws.Slices
import Derived.Lib.AppendStr
import Derived.Lib.ConvBytes
import Derived.Lib.SlBytesConst
import Derived.Maps.AppendAt
import Derived.Maps.OwnSet
import Derived.OrdersHeld
import Derived.OwnWalk
import Derived.RowKit
import Derived.RowKit3
import Derived.Shelf.Abstract
import Derived.Tactics
import Derived.Test.YtehjfaddhmdicaaDoorProg
import Derived.WalkKit
import Derived.WideLaws
import Derived.Test.YtehjfaddhmdicaaDoorMFT0
namespace Go.Proofs.YtehjfaddhmdicaaDoor.P
open Go.RowKit Go.Proofs.YtehjfaddhmdicaaDoorW.PrintWords Go.Proofs.YtehjfaddhmdicaaDoorW.PrintLast Go.Proofs.YtehjfaddhmdicaaDoorW.PrintMore
attribute [local go_sem] max2_int min2_int max_two min_two max_three min_three max_four min_four   -- for this text's walks alone
set_option linter.unusedVariables false
set_option linter.unusedSimpArgs false



def errW:Option Int → Value
  | none => .nilIface
  | some c => .iface 0 (.int .i64 c)
theorem errW_none:errW none = .nilIface:=rfl
theorem errW_some (c:Int):errW (some c) = .iface 0 (.int .i64 c):=rfl

theorem info3:(Tryd.prog.info? 3).map (fun i => (i.zero,i.size,i.bytes)) = some (some (.int .i64 0),1,8):=by kernel_rfl
theorem info118:(Tryd.prog.info? 118).map (fun i => (i.zero,i.size,i.bytes)) = some (some (.agg #[(.int .i64 0),(.int .i64 0),(.int .i64 0),(.int .u64 0)]),4,32):=by kernel_rfl
theorem info122:(Tryd.prog.info? 122).map (fun i => (i.zero,i.size,i.bytes)) = some (some (.agg #[(.int .i64 0),(.int .i64 0),(.int .i64 0),(.int .i64 0)]),4,32):=by kernel_rfl
structure S122 where
  f0:Int
  f1:Int
  f2:Int
  f3:Int
def z122:S122:=⟨(0:Int),(0:Int),(0:Int),(0:Int)⟩
def k122:Kd S122:=Kd.iso (Kd.pair (Kd.int .i64) (Kd.pair (Kd.int .i64) (Kd.pair (Kd.int .i64) (Kd.int .i64)))) (fun x:S122 => (x.f0,x.f1,x.f2,x.f3))
theorem k122_open {w:World} {x:S122} {cs:List Value} (h:k122.K w x cs):cs = [.int .i64 x.f0,.int .i64 x.f1,.int .i64 x.f2,.int .i64 x.f3]:=by
  obtain ⟨_,_,rfl,rfl,⟨_,_,rfl,rfl,⟨_,_,rfl,rfl,rfl⟩⟩⟩:=h
  exact rfl
theorem k122_mkM (w:World) (base:Nat) (ok:Nat → Prop) (x:S122) :k122.M w base ok x [.int .i64 x.f0,.int .i64 x.f1,.int .i64 x.f2,.int .i64 x.f3]:=⟨[.int .i64 x.f0],[.int .i64 x.f1,.int .i64 x.f2,.int .i64 x.f3],rfl,rfl,⟨[.int .i64 x.f1],[.int .i64 x.f2,.int .i64 x.f3],rfl,rfl,⟨[.int .i64 x.f2],[.int .i64 x.f3],rfl,rfl,rfl⟩⟩⟩
def rd_T122 (xs:List S122) (i:Int):S122:=xs.getD i.toNat z122
theorem at_T122 {w:World} {A:Option Addr} {n:Nat} {xs:List S122} (h:Kd.C k122 w A n xs) (i:Int) (h0:0 ≤ i) (h1:i < n):∃ ad ,A = some ad ∧ w.cell? (ad.add (i.toNat * 4)) = some (.int .i64 (rd_T122 xs i).f0) ∧ w.cell? ⟨(ad.add (i.toNat * 4)).block,(ad.add (i.toNat * 4)).off + 1,none⟩ = some (.int .i64 (rd_T122 xs i).f1) ∧ w.cell? ⟨(ad.add (i.toNat * 4)).block,(ad.add (i.toNat * 4)).off + 2,none⟩ = some (.int .i64 (rd_T122 xs i).f2) ∧ w.cell? ⟨(ad.add (i.toNat * 4)).block,(ad.add (i.toNat * 4)).off + 3,none⟩ = some (.int .i64 (rd_T122 xs i).f3):=by
  obtain ⟨ad,c,e,_,hK,hc0⟩:=Kd.C_get h z122 i h0 h1
  have hc:∀ j u,c[j]? = some u → w.cell? (ad.add (i.toNat * 4 + j)) = some u:=hc0
  obtain rfl:=k122_open hK
  exact ⟨ad,e,hc 0 _ rfl,by rw [← add_field _ _ 1 (by omega)]; exact hc 1 _ rfl,by rw [← add_field _ _ 2 (by omega)]; exact hc 2 _ rfl,by rw [← add_field _ _ 3 (by omega)]; exact hc 3 _ rfl⟩

structure S118 where
  f0:Int
  f1:Int
  f2:Int
  f3:Int
def z118:S118:=⟨(0:Int),(0:Int),(0:Int),(0:Int)⟩
def k118:Kd S118:=Kd.iso (Kd.pair (Kd.int .i64) (Kd.pair (Kd.int .i64) (Kd.pair (Kd.int .i64) (Kd.int .u64)))) (fun x:S118 => (x.f0,x.f1,x.f2,x.f3))
theorem k118_open {w:World} {x:S118} {cs:List Value} (h:k118.K w x cs):cs = [.int .i64 x.f0,.int .i64 x.f1,.int .i64 x.f2,.int .u64 x.f3]:=by
  obtain ⟨_,_,rfl,rfl,⟨_,_,rfl,rfl,⟨_,_,rfl,rfl,rfl⟩⟩⟩:=h
  exact rfl
theorem k118_mkM (w:World) (base:Nat) (ok:Nat → Prop) (x:S118) :k118.M w base ok x [.int .i64 x.f0,.int .i64 x.f1,.int .i64 x.f2,.int .u64 x.f3]:=⟨[.int .i64 x.f0],[.int .i64 x.f1,.int .i64 x.f2,.int .u64 x.f3],rfl,rfl,⟨[.int .i64 x.f1],[.int .i64 x.f2,.int .u64 x.f3],rfl,rfl,⟨[.int .i64 x.f2],[.int .u64 x.f3],rfl,rfl,rfl⟩⟩⟩
def rd_T118 (xs:List S118) (i:Int):S118:=xs.getD i.toNat z118
theorem at_T118 {w:World} {A:Option Addr} {n:Nat} {xs:List S118} (h:Kd.C k118 w A n xs) (i:Int) (h0:0 ≤ i) (h1:i < n):∃ ad ,A = some ad ∧ w.cell? (ad.add (i.toNat * 4)) = some (.int .i64 (rd_T118 xs i).f0) ∧ w.cell? ⟨(ad.add (i.toNat * 4)).block,(ad.add (i.toNat * 4)).off + 1,none⟩ = some (.int .i64 (rd_T118 xs i).f1) ∧ w.cell? ⟨(ad.add (i.toNat * 4)).block,(ad.add (i.toNat * 4)).off + 2,none⟩ = some (.int .i64 (rd_T118 xs i).f2) ∧ w.cell? ⟨(ad.add (i.toNat * 4)).block,(ad.add (i.toNat * 4)).off + 3,none⟩ = some (.int .u64 (rd_T118 xs i).f3):=by
  obtain ⟨ad,c,e,_,hK,hc0⟩:=Kd.C_get h z118 i h0 h1
  have hc:∀ j u,c[j]? = some u → w.cell? (ad.add (i.toNat * 4 + j)) = some u:=hc0
  obtain rfl:=k118_open hK
  exact ⟨ad,e,hc 0 _ rfl,by rw [← add_field _ _ 1 (by omega)]; exact hc 1 _ rfl,by rw [← add_field _ _ 2 (by omega)]; exact hc 2 _ rfl,by rw [← add_field _ _ 3 (by omega)]; exact hc 3 _ rfl⟩

structure S36 where
  f0:Int
  f1:Int
  f2:(List Int)
  f3:(List Int)
def k36:Kd S36:=Kd.iso (Kd.pair (Kd.int .i64) (Kd.pair (Kd.int .i64) (Kd.pair (Kd.slice 3 (Kd.int .i64)) (Kd.slice 3 (Kd.int .i64))))) (fun x:S36 => (x.f0,x.f1,x.f2,x.f3))
theorem k36_openM {w:World} {base:Nat} {ok:Nat → Prop} {x:S36} {cs:List Value} (h:k36.M w base ok x cs):∃ v2 v3,cs = [.int .i64 x.f0,.int .i64 x.f1,v2,v3] ∧ (Kd.int .i64).R 3 w base ok v2 x.f2 ∧ (Kd.int .i64).R 3 w base ok v3 x.f3:=by
  obtain ⟨_,_,rfl,rfl,⟨_,_,rfl,rfl,⟨_,_,rfl,⟨v2,rfl,g2⟩,⟨v3,rfl,g3⟩⟩⟩⟩:=h
  exact ⟨v2,v3,rfl,g2,g3⟩
theorem k36_mkM (w:World) (base:Nat) (ok:Nat → Prop) (x:S36) {v2:Value} (g2:(Kd.int .i64).R 3 w base ok v2 x.f2) {v3:Value} (g3:(Kd.int .i64).R 3 w base ok v3 x.f3):k36.M w base ok x [.int .i64 x.f0,.int .i64 x.f1,v2,v3]:=⟨[.int .i64 x.f0],[.int .i64 x.f1,v2,v3],rfl,rfl,⟨[.int .i64 x.f1],[v2,v3],rfl,rfl,⟨[v2],[v3],rfl,⟨v2,rfl,g2⟩,⟨v3,rfl,g3⟩⟩⟩⟩
structure S102 where
  f0:Bool
  f1:Int
  f2:Int
  f3:Int
  f4:Int
structure S58 where
  f0:(List Int)
  f1:Int
end Go.Proofs.YtehjfaddhmdicaaDoor.P
namespace Go.Proofs.YtehjfaddhmdicaaDoor.P
open Go.RowKit Go.Proofs.YtehjfaddhmdicaaDoorW.PrintWords Go.Proofs.YtehjfaddhmdicaaDoorW.PrintLast Go.Proofs.YtehjfaddhmdicaaDoorW.PrintMore
theorem bk_ {A B:Prop} (a_:A) (h:A → B:=by (intro a_; (with_reducible repeat (first | refine blk_drewN ?_ _ | refine blk_drew ?_ | refine blk_alloc ?_ _)); exact a_)):B:=h a_
theorem bf1_ {A B N1:Prop} (n1_:N1) (a_:A) (h:N1 → A → B:=by (intro n1_ a_; (with_reducible repeat (first | refine blk_drewN ?_ _ | refine blk_drew ?_ | refine blk_alloc ?_ _)); refine blk_far ?_ n1_ _; (with_reducible repeat (first | refine blk_drewN ?_ _ | refine blk_drew ?_ | refine blk_alloc ?_ _)); exact a_)):B:=h n1_ a_
theorem bf2_ {A B N1 N2:Prop} (n1_:N1) (n2_:N2) (a_:A) (h:N1 → N2 → A → B:=by (intro n1_ n2_ a_; (with_reducible repeat (first | refine blk_drewN ?_ _ | refine blk_drew ?_ | refine blk_alloc ?_ _)); refine blk_far ?_ n1_ _; (with_reducible repeat (first | refine blk_drewN ?_ _ | refine blk_drew ?_ | refine blk_alloc ?_ _)); refine blk_far ?_ n2_ _; (with_reducible repeat (first | refine blk_drewN ?_ _ | refine blk_drew ?_ | refine blk_alloc ?_ _)); exact a_)):B:=h n1_ n2_ a_
theorem bf3_ {A B N1 N2 N3:Prop} (n1_:N1) (n2_:N2) (n3_:N3) (a_:A) (h:N1 → N2 → N3 → A → B:=by (intro n1_ n2_ n3_ a_; (with_reducible repeat (first | refine blk_drewN ?_ _ | refine blk_drew ?_ | refine blk_alloc ?_ _)); refine blk_far ?_ n1_ _; (with_reducible repeat (first | refine blk_drewN ?_ _ | refine blk_drew ?_ | refine blk_alloc ?_ _)); refine blk_far ?_ n2_ _; (with_reducible repeat (first | refine blk_drewN ?_ _ | refine blk_drew ?_ | refine blk_alloc ?_ _)); refine blk_far ?_ n3_ _; (with_reducible repeat (first | refine blk_drewN ?_ _ | refine blk_drew ?_ | refine blk_alloc ?_ _)); exact a_)):B:=h n1_ n2_ n3_ a_
theorem bf4_ {A B N1 N2 N3 N4:Prop} (n1_:N1) (n2_:N2) (n3_:N3) (n4_:N4) (a_:A) (h:N1 → N2 → N3 → N4 → A → B:=by (intro n1_ n2_ n3_ n4_ a_; (with_reducible repeat (first | refine blk_drewN ?_ _ | refine blk_drew ?_ | refine blk_alloc ?_ _)); refine blk_far ?_ n1_ _; (with_reducible repeat (first | refine blk_drewN ?_ _ | refine blk_drew ?_ | refine blk_alloc ?_ _)); refine blk_far ?_ n2_ _; (with_reducible repeat (first | refine blk_drewN ?_ _ | refine blk_drew ?_ | refine blk_alloc ?_ _)); refine blk_far ?_ n3_ _; (with_reducible repeat (first | refine blk_drewN ?_ _ | refine blk_drew ?_ | refine blk_alloc ?_ _)); refine blk_far ?_ n4_ _; (with_reducible repeat (first | refine blk_drewN ?_ _ | refine blk_drew ?_ | refine blk_alloc ?_ _)); exact a_)):B:=h n1_ n2_ n3_ n4_ a_
theorem bf5_ {A B N1 N2 N3 N4 N5:Prop} (n1_:N1) (n2_:N2) (n3_:N3) (n4_:N4) (n5_:N5) (a_:A) (h:N1 → N2 → N3 → N4 → N5 → A → B:=by (intro n1_ n2_ n3_ n4_ n5_ a_; (with_reducible repeat (first | refine blk_drewN ?_ _ | refine blk_drew ?_ | refine blk_alloc ?_ _)); refine blk_far ?_ n1_ _; (with_reducible repeat (first | refine blk_drewN ?_ _ | refine blk_drew ?_ | refine blk_alloc ?_ _)); refine blk_far ?_ n2_ _; (with_reducible repeat (first | refine blk_drewN ?_ _ | refine blk_drew ?_ | refine blk_alloc ?_ _)); refine blk_far ?_ n3_ _; (with_reducible repeat (first | refine blk_drewN ?_ _ | refine blk_drew ?_ | refine blk_alloc ?_ _)); refine blk_far ?_ n4_ _; (with_reducible repeat (first | refine blk_drewN ?_ _ | refine blk_drew ?_ | refine blk_alloc ?_ _)); refine blk_far ?_ n5_ _; (with_reducible repeat (first | refine blk_drewN ?_ _ | refine blk_drew ?_ | refine blk_alloc ?_ _)); exact a_)):B:=h n1_ n2_ n3_ n4_ n5_ a_
theorem bf6_ {A B N1 N2 N3 N4 N5 N6:Prop} (n1_:N1) (n2_:N2) (n3_:N3) (n4_:N4) (n5_:N5) (n6_:N6) (a_:A) (h:N1 → N2 → N3 → N4 → N5 → N6 → A → B:=by (intro n1_ n2_ n3_ n4_ n5_ n6_ a_; (with_reducible repeat (first | refine blk_drewN ?_ _ | refine blk_drew ?_ | refine blk_alloc ?_ _)); refine blk_far ?_ n1_ _; (with_reducible repeat (first | refine blk_drewN ?_ _ | refine blk_drew ?_ | refine blk_alloc ?_ _)); refine blk_far ?_ n2_ _; (with_reducible repeat (first | refine blk_drewN ?_ _ | refine blk_drew ?_ | refine blk_alloc ?_ _)); refine blk_far ?_ n3_ _; (with_reducible repeat (first | refine blk_drewN ?_ _ | refine blk_drew ?_ | refine blk_alloc ?_ _)); refine blk_far ?_ n4_ _; (with_reducible repeat (first | refine blk_drewN ?_ _ | refine blk_drew ?_ | refine blk_alloc ?_ _)); refine blk_far ?_ n5_ _; (with_reducible repeat (first | refine blk_drewN ?_ _ | refine blk_drew ?_ | refine blk_alloc ?_ _)); refine blk_far ?_ n6_ _; (with_reducible repeat (first | refine blk_drewN ?_ _ | refine blk_drew ?_ | refine blk_alloc ?_ _)); exact a_)):B:=h n1_ n2_ n3_ n4_ n5_ n6_ a_
theorem bf7_ {A B N1 N2 N3 N4 N5 N6 N7:Prop} (n1_:N1) (n2_:N2) (n3_:N3) (n4_:N4) (n5_:N5) (n6_:N6) (n7_:N7) (a_:A) (h:N1 → N2 → N3 → N4 → N5 → N6 → N7 → A → B:=by (intro n1_ n2_ n3_ n4_ n5_ n6_ n7_ a_; (with_reducible repeat (first | refine blk_drewN ?_ _ | refine blk_drew ?_ | refine blk_alloc ?_ _)); refine blk_far ?_ n1_ _; (with_reducible repeat (first | refine blk_drewN ?_ _ | refine blk_drew ?_ | refine blk_alloc ?_ _)); refine blk_far ?_ n2_ _; (with_reducible repeat (first | refine blk_drewN ?_ _ | refine blk_drew ?_ | refine blk_alloc ?_ _)); refine blk_far ?_ n3_ _; (with_reducible repeat (first | refine blk_drewN ?_ _ | refine blk_drew ?_ | refine blk_alloc ?_ _)); refine blk_far ?_ n4_ _; (with_reducible repeat (first | refine blk_drewN ?_ _ | refine blk_drew ?_ | refine blk_alloc ?_ _)); refine blk_far ?_ n5_ _; (with_reducible repeat (first | refine blk_drewN ?_ _ | refine blk_drew ?_ | refine blk_alloc ?_ _)); refine blk_far ?_ n6_ _; (with_reducible repeat (first | refine blk_drewN ?_ _ | refine blk_drew ?_ | refine blk_alloc ?_ _)); refine blk_far ?_ n7_ _; (with_reducible repeat (first | refine blk_drewN ?_ _ | refine blk_drew ?_ | refine blk_alloc ?_ _)); exact a_)):B:=h n1_ n2_ n3_ n4_ n5_ n6_ n7_ a_
theorem bf8_ {A B N1 N2 N3 N4 N5 N6 N7 N8:Prop} (n1_:N1) (n2_:N2) (n3_:N3) (n4_:N4) (n5_:N5) (n6_:N6) (n7_:N7) (n8_:N8) (a_:A) (h:N1 → N2 → N3 → N4 → N5 → N6 → N7 → N8 → A → B:=by (intro n1_ n2_ n3_ n4_ n5_ n6_ n7_ n8_ a_; (with_reducible repeat (first | refine blk_drewN ?_ _ | refine blk_drew ?_ | refine blk_alloc ?_ _)); refine blk_far ?_ n1_ _; (with_reducible repeat (first | refine blk_drewN ?_ _ | refine blk_drew ?_ | refine blk_alloc ?_ _)); refine blk_far ?_ n2_ _; (with_reducible repeat (first | refine blk_drewN ?_ _ | refine blk_drew ?_ | refine blk_alloc ?_ _)); refine blk_far ?_ n3_ _; (with_reducible repeat (first | refine blk_drewN ?_ _ | refine blk_drew ?_ | refine blk_alloc ?_ _)); refine blk_far ?_ n4_ _; (with_reducible repeat (first | refine blk_drewN ?_ _ | refine blk_drew ?_ | refine blk_alloc ?_ _)); refine blk_far ?_ n5_ _; (with_reducible repeat (first | refine blk_drewN ?_ _ | refine blk_drew ?_ | refine blk_alloc ?_ _)); refine blk_far ?_ n6_ _; (with_reducible repeat (first | refine blk_drewN ?_ _ | refine blk_drew ?_ | refine blk_alloc ?_ _)); refine blk_far ?_ n7_ _; (with_reducible repeat (first | refine blk_drewN ?_ _ | refine blk_drew ?_ | refine blk_alloc ?_ _)); refine blk_far ?_ n8_ _; (with_reducible repeat (first | refine blk_drewN ?_ _ | refine blk_drew ?_ | refine blk_alloc ?_ _)); exact a_)):B:=h n1_ n2_ n3_ n4_ n5_ n6_ n7_ n8_ a_
theorem bl0_ {A B :Prop} (a_:A)  (h:A → B:=by (intro a_ ; repeat (first | (with_reducible first | exact a_ | apply below_alloc | apply pw_below_drewN | apply below_drew1) | exact a_))):B:=h a_ 
theorem bl1_ {A B N1:Prop} (a_:A) (n1_:N1) (h:A → N1 → B:=by (intro a_ n1_; repeat (first | (with_reducible first | exact a_ | apply below_alloc | apply pw_below_drewN | apply below_drew1 | refine below_set ?_ n1_) | exact a_))):B:=h a_ n1_
theorem bl2_ {A B N1 N2:Prop} (a_:A) (n1_:N1) (n2_:N2) (h:A → N1 → N2 → B:=by (intro a_ n1_ n2_; repeat (first | (with_reducible first | exact a_ | apply below_alloc | apply pw_below_drewN | apply below_drew1 | refine below_set ?_ n1_ | refine below_set ?_ n2_) | exact a_))):B:=h a_ n1_ n2_
theorem bl3_ {A B N1 N2 N3:Prop} (a_:A) (n1_:N1) (n2_:N2) (n3_:N3) (h:A → N1 → N2 → N3 → B:=by (intro a_ n1_ n2_ n3_; repeat (first | (with_reducible first | exact a_ | apply below_alloc | apply pw_below_drewN | apply below_drew1 | refine below_set ?_ n1_ | refine below_set ?_ n2_ | refine below_set ?_ n3_) | exact a_))):B:=h a_ n1_ n2_ n3_
theorem bl4_ {A B N1 N2 N3 N4:Prop} (a_:A) (n1_:N1) (n2_:N2) (n3_:N3) (n4_:N4) (h:A → N1 → N2 → N3 → N4 → B:=by (intro a_ n1_ n2_ n3_ n4_; repeat (first | (with_reducible first | exact a_ | apply below_alloc | apply pw_below_drewN | apply below_drew1 | refine below_set ?_ n1_ | refine below_set ?_ n2_ | refine below_set ?_ n3_ | refine below_set ?_ n4_) | exact a_))):B:=h a_ n1_ n2_ n3_ n4_
theorem bl5_ {A B N1 N2 N3 N4 N5:Prop} (a_:A) (n1_:N1) (n2_:N2) (n3_:N3) (n4_:N4) (n5_:N5) (h:A → N1 → N2 → N3 → N4 → N5 → B:=by (intro a_ n1_ n2_ n3_ n4_ n5_; repeat (first | (with_reducible first | exact a_ | apply below_alloc | apply pw_below_drewN | apply below_drew1 | refine below_set ?_ n1_ | refine below_set ?_ n2_ | refine below_set ?_ n3_ | refine below_set ?_ n4_ | refine below_set ?_ n5_) | exact a_))):B:=h a_ n1_ n2_ n3_ n4_ n5_
theorem bl6_ {A B N1 N2 N3 N4 N5 N6:Prop} (a_:A) (n1_:N1) (n2_:N2) (n3_:N3) (n4_:N4) (n5_:N5) (n6_:N6) (h:A → N1 → N2 → N3 → N4 → N5 → N6 → B:=by (intro a_ n1_ n2_ n3_ n4_ n5_ n6_; repeat (first | (with_reducible first | exact a_ | apply below_alloc | apply pw_below_drewN | apply below_drew1 | refine below_set ?_ n1_ | refine below_set ?_ n2_ | refine below_set ?_ n3_ | refine below_set ?_ n4_ | refine below_set ?_ n5_ | refine below_set ?_ n6_) | exact a_))):B:=h a_ n1_ n2_ n3_ n4_ n5_ n6_
theorem bl7_ {A B N1 N2 N3 N4 N5 N6 N7:Prop} (a_:A) (n1_:N1) (n2_:N2) (n3_:N3) (n4_:N4) (n5_:N5) (n6_:N6) (n7_:N7) (h:A → N1 → N2 → N3 → N4 → N5 → N6 → N7 → B:=by (intro a_ n1_ n2_ n3_ n4_ n5_ n6_ n7_; repeat (first | (with_reducible first | exact a_ | apply below_alloc | apply pw_below_drewN | apply below_drew1 | refine below_set ?_ n1_ | refine below_set ?_ n2_ | refine below_set ?_ n3_ | refine below_set ?_ n4_ | refine below_set ?_ n5_ | refine below_set ?_ n6_ | refine below_set ?_ n7_) | exact a_))):B:=h a_ n1_ n2_ n3_ n4_ n5_ n6_ n7_
theorem bl8_ {A B N1 N2 N3 N4 N5 N6 N7 N8:Prop} (a_:A) (n1_:N1) (n2_:N2) (n3_:N3) (n4_:N4) (n5_:N5) (n6_:N6) (n7_:N7) (n8_:N8) (h:A → N1 → N2 → N3 → N4 → N5 → N6 → N7 → N8 → B:=by (intro a_ n1_ n2_ n3_ n4_ n5_ n6_ n7_ n8_; repeat (first | (with_reducible first | exact a_ | apply below_alloc | apply pw_below_drewN | apply below_drew1 | refine below_set ?_ n1_ | refine below_set ?_ n2_ | refine below_set ?_ n3_ | refine below_set ?_ n4_ | refine below_set ?_ n5_ | refine below_set ?_ n6_ | refine below_set ?_ n7_ | refine below_set ?_ n8_) | exact a_))):B:=h a_ n1_ n2_ n3_ n4_ n5_ n6_ n7_ n8_
theorem nl_ {w0 W:World} {g gb:Nat} {o:Obj} (hg:gb = W.heap.size) (a_:w0.heap[g]? = some o) (h:w0.heap[g]? = some o → W.heap[g]? = some o:=by (intro a_; (with_reducible repeat (first | refine blk_drewN ?_ _ | refine blk_drew ?_ | refine blk_alloc ?_ _)); exact a_)):g ≠ gb:=by rw [hg]; exact Nat.ne_of_lt (blk_lt (h a_))
theorem ng_ {w0 W:World} {g gb:Nat} {o:Obj} (hg:gb = W.heap.size) (a_:w0.heap[g]? = some o) (h:w0.heap[g]? = some o → W.heap[g]? = some o:=by (intro a_; (with_reducible repeat (first | refine blk_drewN ?_ _ | refine blk_drew ?_ | refine blk_alloc ?_ _)); exact a_)):gb ≠ g:=by rw [hg]; exact Nat.ne_of_gt (blk_lt (h a_))
theorem bb_ {w0 W W2:World} {g:Nat} {o:Obj} (a_:w0.heap[g]? = some o) (hb:Below W.heap.size W W2) (h:w0.heap[g]? = some o → W.heap[g]? = some o:=by (intro a_; (with_reducible repeat (first | refine blk_drewN ?_ _ | refine blk_drew ?_ | refine blk_alloc ?_ _)); exact a_)):W2.heap[g]? = some o:=blk_below (h a_) hb
theorem bs0_ {A :Prop} {w W:World} {gb:Nat} (hg:gb = W.heap.size) (a_:A)  (h:A → Below w.heap.size w W:=by (intro a_ ; repeat (first | (with_reducible first | exact a_ | apply below_alloc | apply pw_below_drewN | apply below_drew1) | exact a_))):w.heap.size ≤ gb:=by rw [hg]; exact below_size (h a_ )
theorem bs1_ {A N1:Prop} {w W:World} {gb:Nat} (hg:gb = W.heap.size) (a_:A) (n1_:N1) (h:A → N1 → Below w.heap.size w W:=by (intro a_ n1_; repeat (first | (with_reducible first | exact a_ | apply below_alloc | apply pw_below_drewN | apply below_drew1 | refine below_set ?_ n1_) | exact a_))):w.heap.size ≤ gb:=by rw [hg]; exact below_size (h a_ n1_)
theorem bs2_ {A N1 N2:Prop} {w W:World} {gb:Nat} (hg:gb = W.heap.size) (a_:A) (n1_:N1) (n2_:N2) (h:A → N1 → N2 → Below w.heap.size w W:=by (intro a_ n1_ n2_; repeat (first | (with_reducible first | exact a_ | apply below_alloc | apply pw_below_drewN | apply below_drew1 | refine below_set ?_ n1_ | refine below_set ?_ n2_) | exact a_))):w.heap.size ≤ gb:=by rw [hg]; exact below_size (h a_ n1_ n2_)
theorem bs3_ {A N1 N2 N3:Prop} {w W:World} {gb:Nat} (hg:gb = W.heap.size) (a_:A) (n1_:N1) (n2_:N2) (n3_:N3) (h:A → N1 → N2 → N3 → Below w.heap.size w W:=by (intro a_ n1_ n2_ n3_; repeat (first | (with_reducible first | exact a_ | apply below_alloc | apply pw_below_drewN | apply below_drew1 | refine below_set ?_ n1_ | refine below_set ?_ n2_ | refine below_set ?_ n3_) | exact a_))):w.heap.size ≤ gb:=by rw [hg]; exact below_size (h a_ n1_ n2_ n3_)
theorem bs4_ {A N1 N2 N3 N4:Prop} {w W:World} {gb:Nat} (hg:gb = W.heap.size) (a_:A) (n1_:N1) (n2_:N2) (n3_:N3) (n4_:N4) (h:A → N1 → N2 → N3 → N4 → Below w.heap.size w W:=by (intro a_ n1_ n2_ n3_ n4_; repeat (first | (with_reducible first | exact a_ | apply below_alloc | apply pw_below_drewN | apply below_drew1 | refine below_set ?_ n1_ | refine below_set ?_ n2_ | refine below_set ?_ n3_ | refine below_set ?_ n4_) | exact a_))):w.heap.size ≤ gb:=by rw [hg]; exact below_size (h a_ n1_ n2_ n3_ n4_)
theorem bs5_ {A N1 N2 N3 N4 N5:Prop} {w W:World} {gb:Nat} (hg:gb = W.heap.size) (a_:A) (n1_:N1) (n2_:N2) (n3_:N3) (n4_:N4) (n5_:N5) (h:A → N1 → N2 → N3 → N4 → N5 → Below w.heap.size w W:=by (intro a_ n1_ n2_ n3_ n4_ n5_; repeat (first | (with_reducible first | exact a_ | apply below_alloc | apply pw_below_drewN | apply below_drew1 | refine below_set ?_ n1_ | refine below_set ?_ n2_ | refine below_set ?_ n3_ | refine below_set ?_ n4_ | refine below_set ?_ n5_) | exact a_))):w.heap.size ≤ gb:=by rw [hg]; exact below_size (h a_ n1_ n2_ n3_ n4_ n5_)
theorem bs6_ {A N1 N2 N3 N4 N5 N6:Prop} {w W:World} {gb:Nat} (hg:gb = W.heap.size) (a_:A) (n1_:N1) (n2_:N2) (n3_:N3) (n4_:N4) (n5_:N5) (n6_:N6) (h:A → N1 → N2 → N3 → N4 → N5 → N6 → Below w.heap.size w W:=by (intro a_ n1_ n2_ n3_ n4_ n5_ n6_; repeat (first | (with_reducible first | exact a_ | apply below_alloc | apply pw_below_drewN | apply below_drew1 | refine below_set ?_ n1_ | refine below_set ?_ n2_ | refine below_set ?_ n3_ | refine below_set ?_ n4_ | refine below_set ?_ n5_ | refine below_set ?_ n6_) | exact a_))):w.heap.size ≤ gb:=by rw [hg]; exact below_size (h a_ n1_ n2_ n3_ n4_ n5_ n6_)
theorem bs7_ {A N1 N2 N3 N4 N5 N6 N7:Prop} {w W:World} {gb:Nat} (hg:gb = W.heap.size) (a_:A) (n1_:N1) (n2_:N2) (n3_:N3) (n4_:N4) (n5_:N5) (n6_:N6) (n7_:N7) (h:A → N1 → N2 → N3 → N4 → N5 → N6 → N7 → Below w.heap.size w W:=by (intro a_ n1_ n2_ n3_ n4_ n5_ n6_ n7_; repeat (first | (with_reducible first | exact a_ | apply below_alloc | apply pw_below_drewN | apply below_drew1 | refine below_set ?_ n1_ | refine below_set ?_ n2_ | refine below_set ?_ n3_ | refine below_set ?_ n4_ | refine below_set ?_ n5_ | refine below_set ?_ n6_ | refine below_set ?_ n7_) | exact a_))):w.heap.size ≤ gb:=by rw [hg]; exact below_size (h a_ n1_ n2_ n3_ n4_ n5_ n6_ n7_)
theorem bs8_ {A N1 N2 N3 N4 N5 N6 N7 N8:Prop} {w W:World} {gb:Nat} (hg:gb = W.heap.size) (a_:A) (n1_:N1) (n2_:N2) (n3_:N3) (n4_:N4) (n5_:N5) (n6_:N6) (n7_:N7) (n8_:N8) (h:A → N1 → N2 → N3 → N4 → N5 → N6 → N7 → N8 → Below w.heap.size w W:=by (intro a_ n1_ n2_ n3_ n4_ n5_ n6_ n7_ n8_; repeat (first | (with_reducible first | exact a_ | apply below_alloc | apply pw_below_drewN | apply below_drew1 | refine below_set ?_ n1_ | refine below_set ?_ n2_ | refine below_set ?_ n3_ | refine below_set ?_ n4_ | refine below_set ?_ n5_ | refine below_set ?_ n6_ | refine below_set ?_ n7_ | refine below_set ?_ n8_) | exact a_))):w.heap.size ≤ gb:=by rw [hg]; exact below_size (h a_ n1_ n2_ n3_ n4_ n5_ n6_ n7_ n8_)
theorem ap_ {A:Prop} (h:A:=by (show Act.put _ (some _) _ = _; simp only [Act.put,List.setIfInBounds_toArray,List.set_cons_zero,List.set_cons_succ,i64_w,i32_w]; rfl)):A:=h
theorem er_ {A:Prop} (h:A:=by (first | rfl | (simp [errW_none,errW_some] <;> rfl) | (simp [*,errW_none,errW_some] <;> rfl))):A:=h
theorem kr_ {A B:Prop} (a_:A) (h:A → B:=by (intro a_; (with_reducible repeat (first | apply Kd.R_alloc | apply Kd.R_drewN | apply Kd.R_drew)); exact a_)):B:=h a_
theorem kc_ {A B:Prop} (a_:A) (h:A → B:=by (intro a_; repeat (first | exact a_ | (with_reducible refine Kd.C_alloc ?_ _) | (with_reducible refine Kd.C_drewN ?_ _) | (with_reducible refine Kd.C_drew ?_)))):B:=h a_
theorem ob_ {A:Prop} (h:A:=by ((try simp only [List.map_toArray,List.map_cons,List.map_nil]); first | done | rfl | (simp only [List.length_drop,List.length_take]; rfl))):A:=h
theorem rs_ {A:Prop} (h:A:=by (first | rfl | (simp; done) | (simp [*]; done))):A:=h
theorem as_ {A:Prop} (h:A:=by (first | (with_reducible assumption) | assumption)):A:=h
theorem boxE_ {P:Program} {ops:Array Oper} {Q:Exit → Act → World → Prop} {rest:List Oper} {a:Act} {o:Oper} {W:World} {N:Tmp} {cs:Array Value} {t:TypeId}
  (h:∀ g,g = W.heap.size → ∀ w1,w1.heap[g]? = some (.cells cs t (0,0)) → Below W.heap.size W w1 → wpList P ops Q rest (a.put o.dst (.pointer (some ⟨g,0,none⟩))) w1)
  (hd:o.dst = some N:=by rfl) (hg:o.guard = none:=by rfl) (hr:(execOp a.eval o).run P W = .ok (.value (.pointer (some ⟨W.heap.size,0,none⟩))) (W.alloc (.cells cs t (0,0))):=by first | (go_simp; done) | (go_simp; rfl)):wpList P ops Q (o :: rest) a W :=
 box_event hg hd hr h
theorem am_ {p:Prop} (h:p):Aside0 p:=⟨h⟩
theorem bc_ {w:World} {g:Nat} {t:TypeId} {cs:Array Value} (h:w.heap[g]? = some (.cells cs t (0,0))) (i:Nat):w.cell? ⟨g,i,none⟩ = cs[i]?:=blk_cell h i
theorem bz_ {w:World} {g:Nat} {t:TypeId} {cs:Array Value} (h:w.heap[g]? = some (.cells cs t (0,0))) (i:Nat):w.frozen? ⟨g,i,none⟩ = false:=blk_frozen h i
theorem wl_ (w:World) (a:Addr) {u:Value} (h:w.cell? a = some u):a.block < w.heap.size:=World.block_lt_of_cell? w a h
theorem bi_ {α β:Type} {o:Option α} {f:α → Option β} {b:β} (h:o.bind f = some b):∃ a,o = some a ∧ f a = some b:=Option.bind_eq_some_iff.mp h
end Go.Proofs.YtehjfaddhmdicaaDoor.P
namespace Go.Proofs.YtehjfaddhmdicaaDoor.P
open Go.RowKit Go.Proofs.YtehjfaddhmdicaaDoorW.PrintWords Go.Proofs.YtehjfaddhmdicaaDoorW.PrintLast Go.Proofs.YtehjfaddhmdicaaDoorW.PrintMore
attribute [local go_sem] max2_int min2_int max_two min_two max_three min_three max_four min_four   -- for this text's walks alone
set_option linter.unusedVariables false
set_option linter.unusedSimpArgs false

theorem heap3_0 (w:World) (o1 o2 o3:Obj):(((w.alloc o1).alloc o2).alloc o3).heap[w.heap.size]? = some o1:=by
  rw [Below.heap_alloc ((w.alloc o1).alloc o2) o3 _ (by simp; omega),Below.heap_alloc (w.alloc o1) o2 _ (by simp),heap_alloc_new]
theorem heap3_1 (w:World) (o1 o2 o3:Obj):(((w.alloc o1).alloc o2).alloc o3).heap[w.heap.size + 1]? = some o2:=by
  rw [Below.heap_alloc ((w.alloc o1).alloc o2) o3 _ (by simp)]
  have:=heap_alloc_new (w.alloc o1) o2
  simpa using this
theorem heap3_2 (w:World) (o1 o2 o3:Obj):(((w.alloc o1).alloc o2).alloc o3).heap[w.heap.size + 1 + 1]? = some o3:=by
  have:=heap_alloc_new ((w.alloc o1).alloc o2) o3
  simpa using this
theorem blk_keep {W w1:World} {g:Nat} {o:Obj} (h:W.heap[g]? = some o) (hb:Below W.heap.size W w1):w1.heap[g]? = some o :=
  (hb.block g (Array.getElem?_eq_some_iff.1 h).1).trans h
theorem blk_kept2 {W w1:World} {g:Nat} {o:Obj} {S:Nat → Prop} (h:W.heap[g]? = some o) (hk:Kept W w1 S) (hne:¬ S g):w1.heap[g]? = some o :=
  (hk.2 g (Array.getElem?_eq_some_iff.1 h).1 hne).trans h


def laws_roomBehind.f (a0:Int):Option (Int):=if (Int.tmod a0 6) = 5 then (some 0) else (if (Int.tmod a0 3) = 0 then (some 1) else (some a0))
set_option maxHeartbeats 8000000 in
set_option maxRecDepth 100000 in
theorem laws_roomBehind.calls (a0:Int) (r:Int) (w:World) (h:laws_roomBehind.f a0 = some r) :
    Calls Tryd.prog 79 #[.int .i64 a0] w fun e w' => e = .returned (.int .i64 r) ∧ Drawn0 w w':=by
  have H:(if (Int.tmod a0 6) = 5 then (some 0) else (if (Int.tmod a0 3) = 0 then (some 1) else (some a0))) = some r:=h
  clear h
  by_cases c2:(Int.tmod a0 6) = 5
  · rw [if_pos c2] at H
    have c2b0:((Int.tmod a0 6) == 5) = true:=beq_iff_eq.mpr c2
    have c2b1:((Int.tmod a0 6) != 5) = false:=bne_eq_false_iff_eq.mpr c2
    clear c2
    obtain rfl:=Option.some.inj H
    go_enter Tryd.func79,Tryd.ntmps79
    go_wp2
    go_ret
    exact ⟨by first | rfl | (simp; done) | (simp [*]; done),by repeat (first | exact Drawn0.refl _ | apply Drawn0.step)⟩
  · rw [if_neg c2] at H
    have c2b0:((Int.tmod a0 6) == 5) = false:=beq_eq_false_iff_ne.mpr c2
    have c2b1:((Int.tmod a0 6) != 5) = true:=bne_iff_ne.mpr c2
    by_cases c3:(Int.tmod a0 3) = 0
    · rw [if_pos c3] at H
      have c3b0:((Int.tmod a0 3) == 0) = true:=beq_iff_eq.mpr c3
      have c3b1:((Int.tmod a0 3) != 0) = false:=bne_eq_false_iff_eq.mpr c3
      clear c3
      obtain rfl:=Option.some.inj H
      go_enter Tryd.func79,Tryd.ntmps79
      go_wp2
      go_ret
      exact ⟨by first | rfl | (simp; done) | (simp [*]; done),by repeat (first | exact Drawn0.refl _ | apply Drawn0.step)⟩
    · rw [if_neg c3] at H
      have c3b0:((Int.tmod a0 3) == 0) = false:=beq_eq_false_iff_ne.mpr c3
      have c3b1:((Int.tmod a0 3) != 0) = true:=bne_iff_ne.mpr c3
      obtain rfl:=Option.some.inj H
      go_enter Tryd.func79,Tryd.ntmps79
      go_wp2
      go_ret
      exact ⟨by first | rfl | (simp; done) | (simp [*]; done),by repeat (first | exact Drawn0.refl _ | apply Drawn0.step)⟩


def PredI (g:Nat) (lb:Array Value) (p:Int → Bool) (w:World):Prop:=∀ (W:World) (x:Int),Below w.heap.size w W → Calls Tryd.prog g (#[.int .i64 x] ++ lb) W fun e w' => e = .returned (.bool (p x)) ∧ Below W.heap.size W w'
def idxFrom {α:Type} (p:α → Bool):List α → Nat → Int
  | [],_ => -1
  | x :: xs,k => if p x then (k:Int) else idxFrom p xs (k + 1)
theorem idxFrom_iff {α:Type} (p:α → Bool) (l:List α):∀ k,0 ≤ idxFrom p l k ↔ l.any p = true:=by
  induction l with
  | nil => intro k; simp [idxFrom]
  | cons x xs ih =>
    intro k
    rw [List.any_cons]
    unfold idxFrom
    by_cases h:p x = true
    · rw [if_pos h,h]; simp
    · rw [if_neg h,ih (k + 1),Bool.eq_false_iff.mpr h]; simp
theorem idxFrom_ge {α:Type} (p:α → Bool) (l:List α) (k:Nat):decide (0 ≤ idxFrom p l k) = l.any p:=by
  rw [Bool.eq_iff_iff,decide_eq_true_iff]; exact idxFrom_iff p l k
theorem idxFrom_drop {α:Type} (p:α → Bool) (l:List α) (k:Nat) (h:k < l.length):idxFrom p (l.drop k) k = if p l[k] then (k:Int) else idxFrom p (l.drop (k + 1)) (k + 1):=by
  rw [List.drop_eq_getElem_cons h]; rfl
theorem idxFrom_cases_aux {α:Type} (p:α → Bool) (l:List α):∀ k,(l.filter (fun x => !p x) = l ∧ idxFrom p l k = -1) ∨ ∃ i0,i0 < l.length ∧ idxFrom p l k = ((k + i0:Nat):Int) ∧ (l.take (i0 + 1)).filter (fun x => !p x) = l.take i0:=by
  induction l with
  | nil => intro k; exact .inl ⟨rfl,rfl⟩
  | cons x xs ih =>
    intro k
    by_cases h:p x = true
    · exact .inr ⟨0,by simp,by unfold idxFrom; rw [if_pos h]; rfl,by simp [h]⟩
    · rcases ih (k + 1) with ⟨h1,h2⟩ | ⟨i0,h1,h2,h3⟩
      · exact .inl ⟨by simp [h,h1],by unfold idxFrom; rw [if_neg h,h2]⟩
      · exact .inr ⟨i0 + 1,by simp [h1],by unfold idxFrom; rw [if_neg h,h2]; congr 1; omega,by rw [List.take_succ_cons,List.filter_cons,if_pos (by simp [h]),h3,List.take_succ_cons]⟩
theorem idxFrom_cases {α:Type} (p:α → Bool) (l:List α):(l.filter (fun x => !p x) = l ∧ idxFrom p l 0 = -1) ∨ ∃ i0,i0 < l.length ∧ idxFrom p l 0 = (i0:Int) ∧ (l.take (i0 + 1)).filter (fun x => !p x) = l.take i0:=by
  have:=idxFrom_cases_aux p l 0
  simpa using this
theorem rd_nat (l:List Int) (k:Nat) (h:k < l.length):rd l (k:Int) = l[k]:=by
  unfold rd; rw [Int.toNat_natCast,List.getD_eq_getElem?_getD,List.getElem?_eq_getElem h]; rfl
set_option maxHeartbeats 2000000 in
theorem indexI_any (g:Nat) (lb:Array Value) (p:Int → Bool) (eg:∀ args w,(callFunc g args).run Tryd.prog w = .ok (.enter g args) w) (A0:Option Addr) (c0:Nat) (l0:List Int) (w:World) (hr0:Kd.C (Kd.int .i64) w A0 l0.length l0) (hp:PredI g lb p w) :
    Calls Tryd.prog 153 #[.slice A0 l0.length c0,.func (.func g) #[] lb] w fun e w' => e = .returned (.int .i64 (idxFrom p l0 0)) ∧ Below w.heap.size w w':=by
  have HR0:=am_ hr0
  have HP:=am_ hp
  have hbig:l0.length ≤ 9223372036854775807:=hr0.2.1
  clear hr0 hp
  generalize hn:l0.length = n at hbig
  have HN:=am_ hn
  clear hn
  have HR:Aside0 (Kd.C (Kd.int .i64) w A0 n l0):=⟨by have h:=HR0.out; rw [HN.out] at h; exact h⟩
  clear HR0
  go_enter Tryd.func153,Tryd.ntmps153
  go_wp2
  go_loopg [5,8] n (fun gg _ s8 wr => ∃ kk:Nat,kk ≤ n ∧ n - kk ≤ gg ∧ s8 = .int .i64 kk ∧ Aside0 (Below w.heap.size w wr) ∧ Aside0 (idxFrom p l0 0 = idxFrom p (l0.drop kk) kk))
  case atStart => exact ⟨0,Nat.zero_le _,by omega,rfl,⟨Below.refl _ w⟩,⟨rfl⟩⟩
  case round =>
    obtain ⟨kk,hkk,hg,rfl,BW,A⟩:=hrel
    by_cases hlt:kk < n
    · have hltz:(kk:Int) < (n:Int):=by omega
      have hll:kk < l0.length:=by rw [HN.out]; exact hlt
      obtain ⟨ad,eA,hx⟩:=Kd.at_int (Kd.C_below HR.out BW.out) (kk:Int) (by omega) (by omega)
      cases eA
      rw [rd_nat l0 kk hll,Int.toNat_natCast] at hx
      have hcall:=HP.out wr l0[kk] BW.out
      have hs:=idxFrom_drop p l0 kk hll
      have A2:Aside0 (idxFrom p l0 0 = if p l0[kk] then (kk:Int) else idxFrom p (l0.drop (kk + 1)) (kk + 1)):=⟨by rw [A.out,hs]⟩
      clear A hs
      generalize hy:l0[kk] = y at hx hcall A2
      clear hy hll
      cases hq:p y with
      | true =>
        rw [hq] at hcall
        have A3:Aside0 (idxFrom p l0 0 = (kk:Int)):=⟨by rw [A2.out,if_pos hq]⟩
        clear A2 hq
        go_wp2_with (go_at_fn g; refine hcall.mono ?_; rintro e w' ⟨rfl,hb'⟩)
        go_ret
        exact ⟨by rw [A3.out]; rfl,BW.out.trans (hb'.mono BW.out.size)⟩
      | false =>
        rw [hq] at hcall
        have A3:Aside0 (idxFrom p l0 0 = idxFrom p (l0.drop (kk + 1)) (kk + 1)):=⟨by rw [A2.out,if_neg (by rw [hq]; simp)]⟩
        clear A2 hq
        go_wp2_with (go_at_fn g; refine hcall.mono ?_; rintro e w' ⟨rfl,hb'⟩)
        go_roundg (n - (kk + 1))
        case measure => omega
        case rel => exact ⟨kk + 1,by omega,by omega,by go_num,⟨BW.out.trans (hb'.mono BW.out.size)⟩,A3⟩
    · have hltz:¬ (kk:Int) < (n:Int):=by omega
      have:kk = n:=by omega
      subst this
      go_wp2
      go_ret
      exact ⟨by rw [A.out,List.drop_of_length_le (by rw [HN.out]; exact Nat.le_refl _)]; rfl,BW.out⟩


def roomN (n:Nat):Nat:=if n % 6 = 5 then 0 else if n % 3 = 0 then 1 else n
theorem roomN_le (n:Nat):roomN n ≤ n + 1:=by unfold roomN; split <;> (try split) <;> omega
theorem roomN_pos (n:Nat):0 < n + roomN n:=by unfold roomN; split <;> (try split) <;> omega
theorem roomN_f (n:Nat):laws_roomBehind.f (n:Int) = some (roomN n:Int):=by
  unfold laws_roomBehind.f roomN
  rw [Int.tmod_eq_emod_of_nonneg (by omega),Int.tmod_eq_emod_of_nonneg (by omega)]
  by_cases h:n % 6 = 5
  · rw [if_pos (by omega),if_pos h]; rfl
  · rw [if_neg (by omega),if_neg h]
    by_cases h2:n % 3 = 0
    · rw [if_pos (by omega),if_pos h2]; rfl
    · rw [if_neg (by omega),if_neg h2]
def fullOf (l:List Int):List Int:=l ++ List.replicate (roomN l.length) (-7000000000000000101)
theorem fullOf_length (l:List Int):(fullOf l).length = l.length + roomN l.length:=by simp [fullOf]
theorem fullOf_take (l:List Int):(fullOf l).take l.length = l:=by simp [fullOf]
theorem room_at0 (l:List Int) (N:Nat):List.replicate N (0:Int) = l.take 0 ++ List.replicate (N - 0) 0:=by simp
theorem room_step1 (l:List Int) (N k:Nat) (h:k < l.length) (hN:l.length ≤ N):(l.take k ++ List.replicate (N - k) (0:Int)).set k (rd l (k:Int)) = l.take (k + 1) ++ List.replicate (N - (k + 1)) 0:=by
  rw [rd_nat l k h,List.take_succ_eq_append_getElem h]
  obtain ⟨q,hq⟩:∃ q,N - k = q + 1:=⟨N - k - 1,by omega⟩
  have hl:(l.take k).length = k:=by rw [List.length_take]; omega
  rw [hq,List.replicate_succ,List.set_append,if_neg (by omega),hl,Nat.sub_self,List.set_cons_zero,List.append_assoc,show N - (k + 1) = q by omega]
  rfl
theorem room_mid (l:List Int) (N:Nat):l.take l.length ++ List.replicate (N - l.length) (0:Int) = l ++ List.replicate (l.length - l.length) (-7000000000000000101) ++ List.replicate (N - l.length) 0:=by simp
theorem room_step2 (l:List Int) (N k:Nat) (h:l.length ≤ k) (hN:k < N):(l ++ List.replicate (k - l.length) (-7000000000000000101) ++ List.replicate (N - k) (0:Int)).set k (-7000000000000000101) = l ++ List.replicate (k + 1 - l.length) (-7000000000000000101) ++ List.replicate (N - (k + 1)) 0:=by
  obtain ⟨q,hq⟩:∃ q,N - k = q + 1:=⟨N - k - 1,by omega⟩
  have hl:(l ++ List.replicate (k - l.length) (-7000000000000000101:Int)).length = k:=by simp; omega
  rw [hq,List.replicate_succ,List.set_append,if_neg (by omega),hl,Nat.sub_self,List.set_cons_zero,show N - (k + 1) = q by omega,show k + 1 - l.length = (k - l.length) + 1 by omega,List.replicate_succ',List.append_assoc,List.append_assoc,List.append_assoc]
  rfl
theorem room_end (l:List Int):l ++ List.replicate (l.length + roomN l.length - l.length) (-7000000000000000101) ++ List.replicate (l.length + roomN l.length - (l.length + roomN l.length)) (0:Int) = fullOf l:=by simp [fullOf]
theorem room_len1 (l:List Int) (N k:Nat) (h:k ≤ l.length) (hN:l.length ≤ N):(l.take k ++ List.replicate (N - k) (0:Int)).length = N:=by simp; omega
theorem room_len2 (l:List Int) (N k:Nat) (h:l.length ≤ k) (hN:k ≤ N):(l ++ List.replicate (k - l.length) (-7000000000000000101) ++ List.replicate (N - k) (0:Int)).length = N:=by simp; omega


def laws_szIntS.f (l0:List Int) (a1:Int):Option (Int):=if (wrap64 (a1 - (l0.length:Int))) < 0 then (some (-1)) else (some (wrap64 (a1 - (l0.length:Int))))
set_option maxHeartbeats 8000000 in
set_option maxRecDepth 100000 in
theorem laws_szIntS.calls (A0:Option Addr) (c0:Nat) (l0:List Int) (a1:Int) (r:Int) (w:World) (hr0:Kd.C (Kd.int .i64) w A0 l0.length l0) (hc0:l0.length ≤ c0) (h:laws_szIntS.f l0 a1 = some r) :
    Calls Tryd.prog 30 #[.slice A0 l0.length c0,.int .i64 a1] w fun e w' => e = .returned (.int .i64 r) ∧ Drawn0 w w':=by
  have HR0:=am_ hr0
  have HC0:=am_ hc0
  clear hr0 hc0
  have H:(if (wrap64 (a1 - (l0.length:Int))) < 0 then (some (-1)) else (some (wrap64 (a1 - (l0.length:Int))))) = some r:=h
  clear h
  by_cases c3:(wrap64 (a1 - (l0.length:Int))) < 0
  · rw [if_pos c3] at H
    have c3b0:decide ((wrap64 (a1 - (l0.length:Int))) < 0) = true:=decide_eq_true c3
    clear c3
    obtain rfl:=Option.some.inj H
    go_enter Tryd.func30,Tryd.ntmps30
    go_wp2
    go_ret
    exact ⟨by first | rfl | (simp; done) | (simp [*]; done),by repeat (first | exact Drawn0.refl _ | apply Drawn0.step)⟩
  · rw [if_neg c3] at H
    have c3b0:decide ((wrap64 (a1 - (l0.length:Int))) < 0) = false:=decide_eq_false c3
    clear c3
    obtain rfl:=Option.some.inj H
    go_enter Tryd.func30,Tryd.ntmps30
    go_wp2
    go_ret
    exact ⟨by first | rfl | (simp; done) | (simp [*]; done),by repeat (first | exact Drawn0.refl _ | apply Drawn0.step)⟩


def laws_szFigure.f (a0_0:Int) (a0_1:Int) (l0_2:List Int) (l0_3:List Int) (a1:Int):Option (Int):=(laws_szIntS.f l0_2 a1).bind fun t102 => (if t102 < 0 then (some (-1)) else ((laws_szIntS.f l0_3 t102).bind fun t103 => (if t103 < 0 then (some (-1)) else (some t103))))
set_option maxHeartbeats 8000000 in
set_option maxRecDepth 100000 in
theorem laws_szFigure.calls (a0_0:Int) (a0_1:Int) (A0_2:Option Addr) (c0_2:Nat) (l0_2:List Int) (A0_3:Option Addr) (c0_3:Nat) (l0_3:List Int) (a1:Int) (r:Int) (w:World) (hr0_2:Kd.C (Kd.int .i64) w A0_2 l0_2.length l0_2) (hc0_2:l0_2.length ≤ c0_2) (hr0_3:Kd.C (Kd.int .i64) w A0_3 l0_3.length l0_3) (hc0_3:l0_3.length ≤ c0_3) (h:laws_szFigure.f a0_0 a0_1 l0_2 l0_3 a1 = some r) :
  Calls Tryd.prog 14 #[.agg #[.int .i64 a0_0,.int .i64 a0_1,.slice A0_2 l0_2.length c0_2,.slice A0_3 l0_3.length c0_3],.int .i64 a1] w fun e w' => e = .returned (.int .i64 r) ∧ Below w.heap.size w w':=by
 have hu33:=Tryd.underlying33
 have HR0_2:=am_ hr0_2
 have HC0_2:=am_ hc0_2
 clear hr0_2 hc0_2
 have HR0_3:=am_ hr0_3
 have HC0_3:=am_ hc0_3
 clear hr0_3 hc0_3
 have HB:=am_ (Below.refl w.heap.size w)
 have H:((laws_szIntS.f l0_2 a1).bind fun t102 => (if t102 < 0 then (some (-1)) else ((laws_szIntS.f l0_3 t102).bind fun t103 => (if t103 < 0 then (some (-1)) else (some t103))))) = some r:=h
 clear h
 replace H:=bi_ H
 obtain ⟨t102,A30,H⟩:=H
 replace H:(if t102 < 0 then (some (-1)) else ((laws_szIntS.f l0_3 t102).bind fun t103 => (if t103 < 0 then (some (-1)) else (some t103)))) = some r:=H
 have A3:=am_ A30
 clear A30
 by_cases c4:t102 < 0
 ·rw [if_pos c4] at H
  have c4b0:decide (t102 < 0) = true:=decide_eq_true c4
  clear c4
  obtain rfl:=Option.some.inj H
  go_enter Tryd.func14,Tryd.ntmps14
  go_wp2_with (first | ((with_reducible refine gate_dst (N:=2) rfl ?_); refine boxE_ (N:=2) (cs:=#[.int .i64 a0_0,.int .i64 a0_1,.slice A0_2 l0_2.length c0_2,.slice A0_3 l0_3.length c0_3]) (t:=33) ?_; intro gb101 hg w5 hbox hb; have n0_:=am_ (below_step (bl0_ HB.out) hb); have n1_:=am_ (hbox); have n2_:=am_ ((bs0_ hg HB.out:w.heap.size ≤ gb101)); have n3_:=am_ ((bs0_ hg HB.out:w.heap.size ≤ gb101)); clear HB; have HB:=n0_; have BK101:=n1_; have GW101:=n2_; have GE101:=n3_; clear n0_ n1_ n2_ n3_; clear hb hbox hg; have hcz6_0:w5.cell? ⟨gb101,0,none⟩ = some (.int .i64 a0_0):=(bc_ BK101.out 0).trans rfl; have hcz6_1:w5.cell? ⟨gb101,1,none⟩ = some (.int .i64 a0_1):=(bc_ BK101.out 1).trans rfl; have hcz6_2:w5.cell? ⟨gb101,2,none⟩ = some (.slice A0_2 l0_2.length c0_2):=(bc_ BK101.out 2).trans rfl; have hcz6_3:w5.cell? ⟨gb101,3,none⟩ = some (.slice A0_3 l0_3.length c0_3):=(bc_ BK101.out 3).trans rfl; have hfz6_0:=bz_ BK101.out 0; have hfz6_1:=bz_ BK101.out 1; have hfz6_2:=bz_ BK101.out 2; have hfz6_3:=bz_ BK101.out 3) | ((with_reducible refine gate_callee (f:=30) rfl ?_); refine goesL_ (some 8) rfl rfl Tryd.func30 (by kernel_rfl) rfl #[.slice A0_2 l0_2.length c0_2,.int .i64 a1] rfl ob_ ?_; (with_reducible refine (laws_szIntS.calls _ _ l0_2 a1 t102 _ ?side1 ?side2 A3.out).mono ?_); (case side1 => exact kc_ (Kd.C_below HR0_2.out HB.out)); (case side2 => exact HC0_2.out); rintro e w' ⟨rfl,⟨nd,rfl⟩⟩; refine ⟨_,rfl,?_⟩))
  go_ret
  exact ⟨er_,bl1_ HB.out GE101.out⟩
 ·rw [if_neg c4] at H
  have c4b0:decide (t102 < 0) = false:=decide_eq_false c4
  clear c4
  replace H:=bi_ H
  obtain ⟨t103,A70,H⟩:=H
  replace H:(if t103 < 0 then (some (-1)) else (some t103)) = some r:=H
  have A7:=am_ A70
  clear A70
  by_cases c8:t103 < 0
  ·rw [if_pos c8] at H
   have c8b0:decide (t103 < 0) = true:=decide_eq_true c8
   clear c8
   obtain rfl:=Option.some.inj H
   go_enter Tryd.func14,Tryd.ntmps14
   go_wp2_with (first | ((with_reducible refine gate_dst (N:=2) rfl ?_); refine boxE_ (N:=2) (cs:=#[.int .i64 a0_0,.int .i64 a0_1,.slice A0_2 l0_2.length c0_2,.slice A0_3 l0_3.length c0_3]) (t:=33) ?_; intro gb101 hg w9 hbox hb; have n0_:=am_ (below_step (bl0_ HB.out) hb); have n1_:=am_ (hbox); have n2_:=am_ ((bs0_ hg HB.out:w.heap.size ≤ gb101)); have n3_:=am_ ((bs0_ hg HB.out:w.heap.size ≤ gb101)); clear HB; have HB:=n0_; have BK101:=n1_; have GW101:=n2_; have GE101:=n3_; clear n0_ n1_ n2_ n3_; clear hb hbox hg; have hcz10_0:w9.cell? ⟨gb101,0,none⟩ = some (.int .i64 a0_0):=(bc_ BK101.out 0).trans rfl; have hcz10_1:w9.cell? ⟨gb101,1,none⟩ = some (.int .i64 a0_1):=(bc_ BK101.out 1).trans rfl; have hcz10_2:w9.cell? ⟨gb101,2,none⟩ = some (.slice A0_2 l0_2.length c0_2):=(bc_ BK101.out 2).trans rfl; have hcz10_3:w9.cell? ⟨gb101,3,none⟩ = some (.slice A0_3 l0_3.length c0_3):=(bc_ BK101.out 3).trans rfl; have hfz10_0:=bz_ BK101.out 0; have hfz10_1:=bz_ BK101.out 1; have hfz10_2:=bz_ BK101.out 2; have hfz10_3:=bz_ BK101.out 3) | ((with_reducible refine gate_callee (f:=30) rfl ?_); refine goesL_ (some 8) rfl rfl Tryd.func30 (by kernel_rfl) rfl #[.slice A0_2 l0_2.length c0_2,.int .i64 a1] rfl ob_ ?_; (with_reducible refine (laws_szIntS.calls _ _ l0_2 a1 t102 _ ?side1 ?side2 A3.out).mono ?_); (case side1 => exact kc_ (Kd.C_below HR0_2.out HB.out)); (case side2 => exact HC0_2.out); rintro e w' ⟨rfl,⟨nd,rfl⟩⟩; refine ⟨_,rfl,?_⟩) | ((with_reducible refine gate_callee (f:=30) rfl ?_); refine goesL_ (some 14) rfl rfl Tryd.func30 (by kernel_rfl) rfl #[.slice A0_3 l0_3.length c0_3,.int .i64 t102] rfl ob_ ?_; (with_reducible refine (laws_szIntS.calls _ _ l0_3 t102 t103 _ ?side1 ?side2 A7.out).mono ?_); (case side1 => repeat (first | exact (Kd.C_below HR0_3.out (bl1_ HB.out GE101.out)) | (with_reducible refine Kd.C_alloc ?_ _) | (with_reducible refine Kd.C_drewN ?_ _) | (with_reducible refine Kd.C_drew ?_))); (case side2 => exact HC0_3.out); rintro e w' ⟨rfl,⟨nd,rfl⟩⟩; refine ⟨_,rfl,?_⟩))
   go_ret
   exact ⟨er_,bl1_ HB.out GE101.out⟩
  ·rw [if_neg c8] at H
   have c8b0:decide (t103 < 0) = false:=decide_eq_false c8
   clear c8
   obtain rfl:=Option.some.inj H
   go_enter Tryd.func14,Tryd.ntmps14
   go_wp2_with (first | ((with_reducible refine gate_dst (N:=2) rfl ?_); refine boxE_ (N:=2) (cs:=#[.int .i64 a0_0,.int .i64 a0_1,.slice A0_2 l0_2.length c0_2,.slice A0_3 l0_3.length c0_3]) (t:=33) ?_; intro gb101 hg w11 hbox hb; have n0_:=am_ (below_step (bl0_ HB.out) hb); have n1_:=am_ (hbox); have n2_:=am_ ((bs0_ hg HB.out:w.heap.size ≤ gb101)); have n3_:=am_ ((bs0_ hg HB.out:w.heap.size ≤ gb101)); clear HB; have HB:=n0_; have BK101:=n1_; have GW101:=n2_; have GE101:=n3_; clear n0_ n1_ n2_ n3_; clear hb hbox hg; have hcz12_0:w11.cell? ⟨gb101,0,none⟩ = some (.int .i64 a0_0):=(bc_ BK101.out 0).trans rfl; have hcz12_1:w11.cell? ⟨gb101,1,none⟩ = some (.int .i64 a0_1):=(bc_ BK101.out 1).trans rfl; have hcz12_2:w11.cell? ⟨gb101,2,none⟩ = some (.slice A0_2 l0_2.length c0_2):=(bc_ BK101.out 2).trans rfl; have hcz12_3:w11.cell? ⟨gb101,3,none⟩ = some (.slice A0_3 l0_3.length c0_3):=(bc_ BK101.out 3).trans rfl; have hfz12_0:=bz_ BK101.out 0; have hfz12_1:=bz_ BK101.out 1; have hfz12_2:=bz_ BK101.out 2; have hfz12_3:=bz_ BK101.out 3) | ((with_reducible refine gate_callee (f:=30) rfl ?_); refine goesL_ (some 8) rfl rfl Tryd.func30 (by kernel_rfl) rfl #[.slice A0_2 l0_2.length c0_2,.int .i64 a1] rfl ob_ ?_; (with_reducible refine (laws_szIntS.calls _ _ l0_2 a1 t102 _ ?side1 ?side2 A3.out).mono ?_); (case side1 => exact kc_ (Kd.C_below HR0_2.out HB.out)); (case side2 => exact HC0_2.out); rintro e w' ⟨rfl,⟨nd,rfl⟩⟩; refine ⟨_,rfl,?_⟩) | ((with_reducible refine gate_callee (f:=30) rfl ?_); refine goesL_ (some 14) rfl rfl Tryd.func30 (by kernel_rfl) rfl #[.slice A0_3 l0_3.length c0_3,.int .i64 t102] rfl ob_ ?_; (with_reducible refine (laws_szIntS.calls _ _ l0_3 t102 t103 _ ?side1 ?side2 A7.out).mono ?_); (case side1 => repeat (first | exact (Kd.C_below HR0_3.out (bl1_ HB.out GE101.out)) | (with_reducible refine Kd.C_alloc ?_ _) | (with_reducible refine Kd.C_drewN ?_ _) | (with_reducible refine Kd.C_drew ?_))); (case side2 => exact HC0_3.out); rintro e w' ⟨rfl,⟨nd,rfl⟩⟩; refine ⟨_,rfl,?_⟩))
   go_ret
   exact ⟨er_,bl1_ HB.out GE101.out⟩


mutual
def laws_toIntS.j0:Nat → List Int → Bool → Option (List Int)
 | 0,_,_ => none
 | k + 1,x0,x13 => if x13 = true then (some ([]:List Int)) else ((laws_roomBehind.f (x0.length:Int)).bind fun t104 => (if 0 ≤ (wrap64 ((x0.length:Int) + t104)) then (if (wrap64 ((x0.length:Int) + t104):Int).toNat ≤ 35184372088832 then (laws_toIntS.l0 k x0 (List.replicate (wrap64 ((x0.length:Int) + t104):Int).toNat 0) 0) else (none)) else (none)))
def laws_toIntS.l0:Nat → List Int → List Int → Int → Option (List Int)
 | 0,_,_,_ => none
 | k + 1,x0,x5,x6 => if x6 < (x0.length:Int) then (if 0 ≤ x6 then (if x6 < (x5.length:Int) then (laws_toIntS.l0 k x0 (x5.set (x6:Int).toNat (rd x0 x6)) (wrap64 (x6 + 1))) else (none)) else (none)) else (laws_toIntS.l1 k x0 x5 (x0.length:Int))
def laws_toIntS.l1:Nat → List Int → List Int → Int → Option (List Int)
 | 0,_,_,_ => none
 | k + 1,x0,x5,x7 => if x7 < (x5.length:Int) then (if 0 ≤ x7 then (laws_toIntS.l1 k x0 (x5.set (x7:Int).toNat (-7000000000000000101)) (wrap64 (x7 + 1))) else (none)) else (if 0 ≤ (x0.length:Int) then (if (x0.length:Int) ≤ (x5.length:Int) then (some (x5.take ((x0.length:Int):Int).toNat)) else (none)) else (none))
end
def laws_toIntS.f (k:Nat) (l0:List Int) (a1:Bool):Option (List Int):=if a1 = true then (laws_toIntS.j0 k l0 ((l0.length:Int) == 0)) else (laws_toIntS.j0 k l0 false)
theorem laws_toIntS.mono_l:∀ k,(∀ y0 y1,LeO (laws_toIntS.j0 k y0 y1) (laws_toIntS.j0 (k + 1) y0 y1)) ∧ (∀ y0 y1 y2,LeO (laws_toIntS.l0 k y0 y1 y2) (laws_toIntS.l0 (k + 1) y0 y1 y2)) ∧ (∀ y0 y1 y2,LeO (laws_toIntS.l1 k y0 y1 y2) (laws_toIntS.l1 (k + 1) y0 y1 y2))
 | 0 => ⟨fun _ _ r h => by simp [laws_toIntS.j0] at h,fun _ _ _ r h => by simp [laws_toIntS.l0] at h,fun _ _ _ r h => by simp [laws_toIntS.l1] at h⟩
 | k + 1 => by
  obtain ⟨ih0,ih1,ih2⟩:=laws_toIntS.mono_l k
  refine ⟨?_,?_,?_⟩
  ·intro y0 y1
   unfold laws_toIntS.j0
   repeat' first | (with_reducible first | exact ih0 _ _ | exact ih1 _ _ _ | exact ih2 _ _ _ | exact LeO.refl _ | exact LeO.none _ | refine LeO.ite ?_ ?_ | refine LeO.bind ?_ (fun _ => ?_)) | exact ih0 _ _ | exact ih1 _ _ _ | exact ih2 _ _ _
  ·intro y0 y1 y2
   unfold laws_toIntS.l0
   repeat' first | (with_reducible first | exact ih0 _ _ | exact ih1 _ _ _ | exact ih2 _ _ _ | exact LeO.refl _ | exact LeO.none _ | refine LeO.ite ?_ ?_ | refine LeO.bind ?_ (fun _ => ?_)) | exact ih0 _ _ | exact ih1 _ _ _ | exact ih2 _ _ _
  ·intro y0 y1 y2
   unfold laws_toIntS.l1
   repeat' first | (with_reducible first | exact ih0 _ _ | exact ih1 _ _ _ | exact ih2 _ _ _ | exact LeO.refl _ | exact LeO.none _ | refine LeO.ite ?_ ?_ | refine LeO.bind ?_ (fun _ => ?_)) | exact ih0 _ _ | exact ih1 _ _ _ | exact ih2 _ _ _
theorem laws_toIntS.mono:∀ a0 a1 k,LeO (laws_toIntS.f k a0 a1) (laws_toIntS.f (k + 1) a0 a1):=by
 intro a0 a1 k
 obtain ⟨ih0,ih1,ih2⟩:=laws_toIntS.mono_l k
 unfold laws_toIntS.f
 repeat' first | (with_reducible first | exact ih0 _ _ | exact ih1 _ _ _ | exact ih2 _ _ _ | exact LeO.refl _ | exact LeO.none _ | refine LeO.ite ?_ ?_ | refine LeO.bind ?_ (fun _ => ?_)) | exact ih0 _ _ | exact ih1 _ _ _ | exact ih2 _ _ _
set_option maxHeartbeats 8000000 in
set_option maxRecDepth 100000 in
theorem laws_toIntS.calls (k:Nat) (A0:Option Addr) (c0:Nat) (l0:List Int) (a1:Bool) (r:List Int) (w:World) (hr0:Kd.C (Kd.int .i64) w A0 l0.length l0) (hc0:l0.length ≤ c0) (h:laws_toIntS.f k l0 a1 = some r) :
  Calls Tryd.prog 35 #[.slice A0 l0.length c0,.bool a1] w fun e w' => ∃ v0_:Value,e = .returned (v0_) ∧ Kd.R (Kd.int .i64) 3 w' w.heap.size (fun _ => True) v0_ r ∧ Below w.heap.size w w':=by
 have HR0:=am_ hr0
 have HC0:=am_ hc0
 clear hr0 hc0
 have HB:=am_ (Below.refl w.heap.size w)
 have H:(if a1 = true then (laws_toIntS.j0 k l0 ((l0.length:Int) == 0)) else (laws_toIntS.j0 k l0 false)) = some r:=h
 clear h
 have HC3:=am_ H
 clear H
 go_enter Tryd.func35,Tryd.ntmps35
 go_upto_region 1 with (fail)
 go_cut [13] (fun v13 wc => ∃ (kq:Nat) (x13_2:Bool),v13 = .bool x13_2 ∧ Aside0 (laws_toIntS.j0 kq l0 x13_2 = some r) ∧ Aside0 (kq ≤ k) ∧ Aside0 (Below w.heap.size w wc))
 case first =>
  have H:=HC3.out
  clear HC3
  by_cases c4:a1 = true
  ·subst c4
   have H1:(laws_toIntS.j0 k l0 ((l0.length:Int) == 0)) = some r:=by rw [if_pos rfl] at H; exact H
   clear H
   have H:=H1
   clear H1
   have H':=am_ H
   clear H
   go_wp2
   go_meet
   case rel => exact ⟨_,(((l0.length:Int) == 0)),rs_,H',⟨by first | omega | exact Nat.le_refl _⟩,⟨bl0_ HB.out⟩⟩
  ·replace c4:=Bool.eq_false_iff.mpr c4
   subst c4
   have H1:(laws_toIntS.j0 k l0 false) = some r:=by rw [if_neg (show ¬ (false = true) by decide)] at H; exact H
   clear H
   have H:=H1
   clear H1
   have H':=am_ H
   clear H
   go_wp2
   go_meet
   case rel => exact ⟨_,(false),rs_,H',⟨by first | omega | exact Nat.le_refl _⟩,⟨bl0_ HB.out⟩⟩
 case rest =>
  clear HC3
  try clear p2
  try clear c3
  try clear c4
  obtain ⟨kq,x13_2,rfl,HA,HJ2,HB⟩:=hcut
  cases kq with
  | zero => exact absurd HA.out (by simp [laws_toIntS.j0])
  | succ kj2 =>
   have H:=HA.out
   clear HA
   simp only [laws_toIntS.j0] at H
   by_cases c5:x13_2 = true
   ·subst c5
    have H1:(some ([]:List Int)) = some r:=by rw [if_pos rfl] at H; exact H
    clear H
    have H:=H1
    clear H1
    obtain rfl:=Option.some.inj H
    go_wp2
    go_ret
    exact ⟨_,er_,by first | exact Kd.R_nil _ _ _ _ _ | exact Kd.N_nil _ _ _ _ _ | exact Kd.V_nil _ _ _ _ _ | exact Kd.Q_nil _ _ _ _ _ | exact Kd.S_nil _ _ _ _ _,bl0_ HB.out⟩
   ·replace c5:=Bool.eq_false_iff.mpr c5
    subst c5
    have H1:((laws_roomBehind.f (l0.length:Int)).bind fun t104 => (if 0 ≤ (wrap64 ((l0.length:Int) + t104)) then (if (wrap64 ((l0.length:Int) + t104):Int).toNat ≤ 35184372088832 then (laws_toIntS.l0 kj2 l0 (List.replicate (wrap64 ((l0.length:Int) + t104):Int).toNat 0) 0) else (none)) else (none))) = some r:=by rw [if_neg (show ¬ (false = true) by decide)] at H; exact H
    clear H
    have H:=H1
    clear H1
    replace H:=bi_ H
    obtain ⟨t104,A60,H⟩:=H
    replace H:(if 0 ≤ (wrap64 ((l0.length:Int) + t104)) then (if (wrap64 ((l0.length:Int) + t104):Int).toNat ≤ 35184372088832 then (laws_toIntS.l0 kj2 l0 (List.replicate (wrap64 ((l0.length:Int) + t104):Int).toNat 0) 0) else (none)) else (none)) = some r:=H
    have A6:=am_ A60
    clear A60
    obtain ⟨ji7,hji7⟩:∃ j_:Int,(wrap64 ((l0.length:Int) + t104)) = j_:=⟨_,rfl⟩
    replace H:(if 0 ≤ (ji7) then (if (ji7:Int).toNat ≤ 35184372088832 then (laws_toIntS.l0 kj2 l0 (List.replicate (ji7:Int).toNat 0) 0) else (none)) else (none)) = some r:=by first | (rw [hji7] at H; exact H) | (simp only [hji7] at H ⊢; exact H)
    (try rw [hji7] at A6)
    have hji7w:(IntKind.i64.wrap ((l0.length:Int) + t104)) = ji7:=(i64_w _).trans hji7
    by_cases c8:0 ≤ (ji7)
    ·rw [if_pos c8] at H
     have c8b0:=eq_true c8
     have c8b1:decide (0 ≤ (ji7)) = true:=decide_eq_true c8
     clear c8
     by_cases c9:(ji7:Int).toNat ≤ 35184372088832
     ·rw [if_pos c9] at H
      have c9b0:=eq_true c9
      have c9b1:decide ((ji7:Int).toNat ≤ 35184372088832) = true:=decide_eq_true c9
      clear c9
      obtain ⟨y105,hy105⟩:∃ y_:List Int,y_ = (List.replicate (ji7:Int).toNat 0):=⟨_,rfl⟩
      replace H:(laws_toIntS.l0 kj2 l0 y105 0) = some r:=by first | (rw [hy105]; with_reducible exact H) | (have H2_:=(Option.bind_some _ _).symm.trans H; rw [hy105]; with_reducible exact H2_) | (have H2_:=(Option.bind_some _ _).symm.trans H; with_reducible exact H2_) | with_reducible exact H | (rw [hy105]; exact H) | exact H
      have Ny105:=am_ hy105
      clear hy105
      have H':=am_ H
      clear H
      go_wp2_with (first | ((with_reducible refine gate_callee (f:=79) rfl ?_); refine goesL_ (some 18) rfl rfl Tryd.func79 (by kernel_rfl) rfl #[.int .i64 (l0.length:Int)] rfl ob_ ?_; (with_reducible refine (laws_roomBehind.calls (l0.length:Int) t104 _ A6.out).mono ?_); rintro e w' ⟨rfl,⟨nd,rfl⟩⟩; refine ⟨_,rfl,?_⟩) | ((with_reducible refine gate_dst (N:=20) rfl ?_); (try (refine gate_guard (by rfl) ?_; dsimp only)); refine Kd.R_make (Kd.int .i64) _ 3 rfl (N:=20) rfl 22 _ _ rfl ji7 rfl rfl Tryd.underlying22 (.int .i64 0) 8 info3 rfl (by decide) (by omega) 0 (ok:=fun _ => True) (okp:=fun _ => True) rfl (fun _ hk => hk) trivial (of_decide_eq_true as_) (Nat.le_trans (Nat.mul_le_mul_right _ (of_decide_eq_true as_:ji7.toNat ≤ 35184372088832)) (by omega)) (Below.refl _ _) (Nat.le_refl _) ?_; intro v106 w10 ho11 hb hg_ hnew_; clear hg_ hnew_; (first | rw [← Ny105.out] at ho11 | (simp only [Int.reduceToNat] at ho11; rw [← Ny105.out] at ho11)); have n0_:=am_ (Kd.R_lower ho11 (below_size (bl0_ HB.out))); have n1_:=am_ (below_step (bl0_ HB.out) hb); clear HB; have HO107:=n0_; have HB:=n1_; clear n0_ n1_; clear hb ho11))
      go_loopg [6] kj2 (fun kq v6 w' => ∃ (x5_2:List Int) (x6_2:Int),v6 = .int .i64 x6_2 ∧ Aside0 (laws_toIntS.l0 kq l0 x5_2 x6_2 = some r) ∧ Aside0 (kq ≤ kj2) ∧ Aside0 (Kd.R (Kd.int .i64) 3 w' w.heap.size (fun _ => True) v106 x5_2) ∧ Aside0 (Below w.heap.size w w'))
      case atStart => exact ⟨(y105),(0),rs_,H',⟨Nat.le_refl _⟩,⟨kr_ HO107.out⟩,⟨bl0_ HB.out⟩⟩
      case round =>
       clear H'
       try clear p2
       try clear c3
       try clear c4
       try clear c5
       try clear p6
       try clear c7
       try clear c8
       try clear c8b0
       try clear c8b1
       try clear c9
       try clear c9b0
       try clear c9b1
       try clear p2
       obtain ⟨x5_2,x6_2,rfl,HA,HK2,HO_5,HB⟩:=hrel
       cases gk with
       | zero => exact absurd HA.out (by simp [laws_toIntS.l0])
       | succ k2 =>
        have H:=HA.out
        clear HA
        simp only [laws_toIntS.l0] at H
        by_cases c12:x6_2 < (l0.length:Int)
        ·rw [if_pos c12] at H
         have c12b0:decide (x6_2 < (l0.length:Int)) = true:=decide_eq_true c12
         clear c12
         by_cases c13:0 ≤ x6_2
         ·rw [if_pos c13] at H
          have c13b0:decide (0 ≤ x6_2) = true:=decide_eq_true c13
          clear c13
          by_cases c14:x6_2 < (x5_2.length:Int)
          ·rw [if_pos c14] at H
           have c14b0:decide (x6_2 < (x5_2.length:Int)) = true:=decide_eq_true c14
           clear c14
           obtain ⟨y109,hy109⟩:∃ y_:List Int,y_ = (x5_2.set (x6_2:Int).toNat (rd l0 x6_2)):=⟨_,rfl⟩
           replace H:(laws_toIntS.l0 k2 l0 y109 (wrap64 (x6_2 + 1))) = some r:=by first | (rw [hy109]; with_reducible exact H) | (have H2_:=(Option.bind_some _ _).symm.trans H; rw [hy109]; with_reducible exact H2_) | (have H2_:=(Option.bind_some _ _).symm.trans H; with_reducible exact H2_) | with_reducible exact H | (rw [hy109]; exact H) | exact H
           have Ny109:=am_ hy109
           clear hy109
           have H':=am_ H
           clear H
           have p108:0 ≤ (x6_2:Int):=of_decide_eq_true as_
           have q108:x6_2 < (l0.length:Int):=of_decide_eq_true as_
           obtain ⟨ad108,e108,hx108_0⟩:=Kd.at_int HR0.out x6_2 p108 q108
           cases e108
           replace hx108_0:=(HB.out.cell (wl_ w _ hx108_0)).trans hx108_0
           replace p108:=eq_true p108
           replace q108:=eq_true q108
           have p15:0 ≤ (x6_2:Int):=of_decide_eq_true as_
           have q15:(x6_2:Int) < ((x5_2.length:Int):Int):=of_decide_eq_true as_
           obtain ⟨go15,co15,eo15,gb15,gl15,cl15,HG15⟩:=Kd.R_form HO_5.out (by omega)
           (first | cases eo15 | (injection eo15 with ea_ en_ ec_; (first | subst ea_ | (injection ea_ with ea_; subst ea_)); subst ec_; clear en_))
           have GB15:=am_ gb15
           have GG15:=am_ HG15
           clear gb15 gl15 HG15
           obtain ⟨hx15_0,hf15_0⟩:=Kd.R_celln 0 HO_5.out (x6_2:Int) p15 q15
           replace p15:=eq_true p15
           replace q15:=eq_true q15
           have HP16:=Kd.R_putg HO_5.out (x6_2:Int) (rd l0 x6_2)
           go_wp2_with (first | ((with_reducible refine gate_store (t:=3) (p:=33) rfl ?_); refine store_event (t:=3) (p:=33) (v:=?vo_w17) (w1:=(wr.setCell ⟨go15,(x6_2:Int).toNat,none⟩ (.int .i64 (rd l0 x6_2)))) ?hg ?ho ?hn ?hr ?_; (case ho => rfl); (case hg => rfl); (case hn => rfl); (case hr => first | (go_simp; done) | (go_simp; rfl)); intro w17 hw; have hg:wr.grownBy w17 (some go15):=(by rw [hw]; exact HP16.2); have hp_:Kd.R (Kd.int .i64) 3 w17 w.heap.size (fun _ => True) (.slice (some ⟨go15,0,none⟩) x5_2.length co15) y109:=(by rw [hw,Ny109.out]; exact HP16.1); clear HP16; have n0_:=am_ (hp_); have n1_:=am_ ((by rw [hw]; exact below_set (HB.out) GB15.out:Below w.heap.size w w17)); clear HO_5; clear HB; have HO_5:=n0_; have HB:=n1_; clear n0_ n1_; clear hg hw hp_))
           go_roundg k2
           case measure => have:=HJ2.out; have:=HK2.out; omega
           case rel => exact ⟨(y109),(wrap64 (x6_2 + 1)),rs_,H',⟨by have:=HJ2.out; have:=HK2.out; omega⟩,⟨kr_ HO_5.out⟩,⟨bl0_ HB.out⟩⟩
          ·rw [if_neg c14] at H
           exact absurd H (by simp)
         ·rw [if_neg c13] at H
          exact absurd H (by simp)
        ·rw [if_neg c12] at H
         have c12b0:decide (x6_2 < (l0.length:Int)) = false:=decide_eq_false c12
         clear c12
         have H':=am_ H
         clear H
         go_wp2
         go_loopg [7] k2 (fun kq v7 w' => ∃ (x5_3:List Int) (x7_3:Int),v7 = .int .i64 x7_3 ∧ Aside0 (laws_toIntS.l1 kq l0 x5_3 x7_3 = some r) ∧ Aside0 (kq ≤ k2) ∧ Aside0 (Kd.R (Kd.int .i64) 3 w' w.heap.size (fun _ => True) v106 x5_3) ∧ Aside0 (Below w.heap.size w w'))
         case atStart => exact ⟨(x5_2),((l0.length:Int)),rs_,H',⟨Nat.le_refl _⟩,⟨kr_ HO_5.out⟩,⟨bl0_ HB.out⟩⟩
         case round =>
          clear H'
          try clear c1
          try clear p1
          try clear q1
          try clear hx1
          try clear p2
          try clear c3
          try clear c4
          try clear c5
          try clear p6
          try clear c7
          try clear c8
          try clear c8b0
          try clear c8b1
          try clear c9
          try clear c9b0
          try clear c9b1
          try clear p10
          try clear q10
          try clear hx10
          try clear c12
          try clear c12b0
          try clear c13
          try clear c13b0
          try clear c14
          try clear c14b0
          try clear p15
          try clear q15
          try clear hx15
          try clear hf15
          try clear hx108_0
          try clear hx15_0
          try clear p108
          try clear p15
          try clear p2
          try clear p6
          try clear q108
          try clear q15
          obtain ⟨x5_3,x7_3,rfl,HA,HK3,HO_5,HB⟩:=hrel
          cases gk with
          | zero => exact absurd HA.out (by simp [laws_toIntS.l1])
          | succ k3 =>
           have H:=HA.out
           clear HA
           simp only [laws_toIntS.l1] at H
           by_cases c18:x7_3 < (x5_3.length:Int)
           ·rw [if_pos c18] at H
            have c18b0:decide (x7_3 < (x5_3.length:Int)) = true:=decide_eq_true c18
            clear c18
            by_cases c19:0 ≤ x7_3
            ·rw [if_pos c19] at H
             have c19b0:decide (0 ≤ x7_3) = true:=decide_eq_true c19
             clear c19
             obtain ⟨y110,hy110⟩:∃ y_:List Int,y_ = (x5_3.set (x7_3:Int).toNat (-7000000000000000101)):=⟨_,rfl⟩
             replace H:(laws_toIntS.l1 k3 l0 y110 (wrap64 (x7_3 + 1))) = some r:=by first | (rw [hy110]; with_reducible exact H) | (have H2_:=(Option.bind_some _ _).symm.trans H; rw [hy110]; with_reducible exact H2_) | (have H2_:=(Option.bind_some _ _).symm.trans H; with_reducible exact H2_) | with_reducible exact H | (rw [hy110]; exact H) | exact H
             have Ny110:=am_ hy110
             clear hy110
             have H':=am_ H
             clear H
             obtain ⟨Ao21,co21,eo21⟩:=Kd.R_slice HO_5.out
             subst eo21
             have p20:0 ≤ (x7_3:Int):=of_decide_eq_true as_
             have q20:(x7_3:Int) < ((x5_3.length:Int):Int):=of_decide_eq_true as_
             obtain ⟨go20,co20,eo20,gb20,gl20,cl20,HG20⟩:=Kd.R_form HO_5.out (by omega)
             (first | cases eo20 | (injection eo20 with ea_ en_ ec_; (first | subst ea_ | (injection ea_ with ea_; subst ea_)); subst ec_; clear en_))
             have GB20:=am_ gb20
             have GG20:=am_ HG20
             clear gb20 gl20 HG20
             obtain ⟨hx20_0,hf20_0⟩:=Kd.R_celln 0 HO_5.out (x7_3:Int) p20 q20
             replace p20:=eq_true p20
             replace q20:=eq_true q20
             have HP22:=Kd.R_putg HO_5.out (x7_3:Int) (-7000000000000000101)
             go_wp2_with (first | ((with_reducible refine gate_store (t:=3) (p:=44) rfl ?_); refine store_event (t:=3) (p:=44) (v:=?vo_w23) (w1:=(wr.setCell ⟨go20,(x7_3:Int).toNat,none⟩ (.int .i64 (-7000000000000000101)))) ?hg ?ho ?hn ?hr ?_; (case ho => rfl); (case hg => rfl); (case hn => rfl); (case hr => first | (go_simp; done) | (go_simp; rfl)); intro w23 hw; have hg:wr.grownBy w23 (some go20):=(by rw [hw]; exact HP22.2); have hp_:Kd.R (Kd.int .i64) 3 w23 w.heap.size (fun _ => True) (.slice (some ⟨go20,0,none⟩) x5_3.length co21) y110:=(by rw [hw,Ny110.out]; exact HP22.1); clear HP22; have n0_:=am_ (hp_); have n1_:=am_ ((by rw [hw]; exact below_set (HB.out) GB20.out:Below w.heap.size w w23)); clear HO_5; clear HB; have HO_5:=n0_; have HB:=n1_; clear n0_ n1_; clear hg hw hp_))
             go_roundg k3
             case measure => have:=HJ2.out; have:=HK2.out; have:=HK3.out; omega
             case rel => exact ⟨(y110),(wrap64 (x7_3 + 1)),rs_,H',⟨by have:=HJ2.out; have:=HK2.out; have:=HK3.out; omega⟩,⟨kr_ HO_5.out⟩,⟨bl0_ HB.out⟩⟩
            ·rw [if_neg c19] at H
             exact absurd H (by simp)
           ·rw [if_neg c18] at H
            have c18b0:decide (x7_3 < (x5_3.length:Int)) = false:=decide_eq_false c18
            clear c18
            by_cases c24:0 ≤ (l0.length:Int)
            ·rw [if_pos c24] at H
             have c24b0:=eq_true c24
             have c24b1:decide (0 ≤ (l0.length:Int)) = true:=decide_eq_true c24
             clear c24
             by_cases c25:(l0.length:Int) ≤ (x5_3.length:Int)
             ·rw [if_pos c25] at H
              have c25b0:=eq_true c25
              have c25b1:decide ((l0.length:Int) ≤ (x5_3.length:Int)) = true:=decide_eq_true c25
              clear c25
              obtain ⟨y111,hy111⟩:∃ y_:List Int,y_ = (x5_3.take ((l0.length:Int):Int).toNat):=⟨_,rfl⟩
              replace H:(some y111) = some r:=by first | (rw [hy111]; with_reducible exact H) | (have H2_:=(Option.bind_some _ _).symm.trans H; rw [hy111]; with_reducible exact H2_) | (have H2_:=(Option.bind_some _ _).symm.trans H; with_reducible exact H2_) | with_reducible exact H | (rw [hy111]; exact H) | exact H
              have Ny111:=am_ hy111
              clear hy111
              obtain rfl:=Option.some.inj H
              obtain ⟨Ao26,co26,eo26⟩:=Kd.R_slice HO_5.out
              subst eo26
              have q27:((l0.length:Int):Int) ≤ ((x5_3.length:Int):Int):=of_decide_eq_true as_
              obtain ⟨i027,hi027,_,hsz27,_⟩:=info_parts info3
              have hcut27:=cut_to (P:=Tryd.prog) 22 3 .i64 Tryd.underlying22 hi027 Ao26 x5_3.length co26 (l0.length:Int) (of_decide_eq_true as_) q27 (Kd.R_reads' HO_5.out).2.1
              have hr27:=Kd.R_take (m:=((l0.length:Int):Int).toNat) HO_5.out (by omega)
              have hy27:y111.length = ((l0.length:Int):Int).toNat:=(by rw [Ny111.out,List.length_take]; omega)
              rw [← Ny111.out] at hr27
              rw [← hy27] at hr27 hcut27
              clear hy27 hi027 hsz27 HO_5
              have HO113:=am_ hr27
              clear hr27
              replace q27:=eq_true q27
              go_wp2
              go_ret
              exact ⟨_,by first | rfl | (simp [errW_none,errW_some] <;> rfl) | (simp only [← hji7]; first | rfl | (simp [errW_none,errW_some] <;> rfl)) | (simp [*,errW_none,errW_some] <;> rfl),by (with_reducible repeat (first | apply Kd.R_alloc | apply Kd.R_drewN | apply Kd.R_drew)); exact HO113.out,bl0_ HB.out⟩
             ·rw [if_neg c25] at H
              exact absurd H (by simp)
            ·rw [if_neg c24] at H
             exact absurd H (by simp)
     ·rw [if_neg c9] at H
      exact absurd H (by simp)
    ·rw [if_neg c8] at H
     exact absurd H (by simp)


def laws_toFigure.f (k:Nat) (a0_0:Int) (a0_1:Int) (l0_2:List Int) (l0_3:List Int) (a1:Bool):Option (Int × Int × List Int × List Int):=(laws_toIntS.f k l0_2 a1).bind fun t117 => ((laws_toIntS.f k l0_3 a1).bind fun t120 => (some (a0_0,a0_1,t117,t120)))
theorem laws_toFigure.mono:∀ a0 a1 a2 a3 a4 k,LeO (laws_toFigure.f k a0 a1 a2 a3 a4) (laws_toFigure.f (k + 1) a0 a1 a2 a3 a4):=by
 intro a0 a1 a2 a3 a4 k
 unfold laws_toFigure.f
 repeat' first | (with_reducible first | exact laws_toIntS.mono _ _ _ | exact LeO.refl _ | exact LeO.none _ | refine LeO.ite ?_ ?_ | refine LeO.bind ?_ (fun _ => ?_)) | exact laws_toIntS.mono _ _ _
set_option maxHeartbeats 8000000 in
set_option maxRecDepth 100000 in
theorem laws_toFigure.calls (k:Nat) (a0_0:Int) (a0_1:Int) (A0_2:Option Addr) (c0_2:Nat) (l0_2:List Int) (A0_3:Option Addr) (c0_3:Nat) (l0_3:List Int) (a1:Bool) (r1:Int) (r2:Int) (r3:List Int) (r4:List Int) (w:World) (hr0_2:Kd.C (Kd.int .i64) w A0_2 l0_2.length l0_2) (hc0_2:l0_2.length ≤ c0_2) (hr0_3:Kd.C (Kd.int .i64) w A0_3 l0_3.length l0_3) (hc0_3:l0_3.length ≤ c0_3) (h:laws_toFigure.f k a0_0 a0_1 l0_2 l0_3 a1 = some (r1,r2,r3,r4)) :
  Calls Tryd.prog 16 #[.agg #[.int .i64 a0_0,.int .i64 a0_1,.slice A0_2 l0_2.length c0_2,.slice A0_3 l0_3.length c0_3],.bool a1] w fun e w' => ∃ v2_ v3_:Value,e = .returned (.agg #[.int .i64 r1,.int .i64 r2,v2_,v3_]) ∧ Kd.R (Kd.int .i64) 3 w' w.heap.size (fun k_ => some k_ ≠ (v3_:Value).ownBlock) v2_ r3 ∧ Kd.R (Kd.int .i64) 3 w' w.heap.size (fun k_ => some k_ ≠ (v2_:Value).ownBlock) v3_ r4 ∧ Below w.heap.size w w':=by
 have hu33:=Tryd.underlying33
 have hu36:=Tryd.underlying36
 have HR0_2:=am_ hr0_2
 have HC0_2:=am_ hc0_2
 clear hr0_2 hc0_2
 have HR0_3:=am_ hr0_3
 have HC0_3:=am_ hc0_3
 clear hr0_3 hc0_3
 have HB:=am_ (Below.refl w.heap.size w)
 have H:((laws_toIntS.f k l0_2 a1).bind fun t117 => ((laws_toIntS.f k l0_3 a1).bind fun t120 => (some (a0_0,a0_1,t117,t120)))) = some (r1,r2,r3,r4):=h
 clear h
 replace H:=bi_ H
 obtain ⟨t117,A30,H⟩:=H
 replace H:((laws_toIntS.f k l0_3 a1).bind fun t120 => (some (a0_0,a0_1,t117,t120))) = some (r1,r2,r3,r4):=H
 have A3:=am_ A30
 clear A30
 replace H:=bi_ H
 obtain ⟨t120,A40,H⟩:=H
 replace H:(some (a0_0,a0_1,t117,t120)) = some (r1,r2,r3,r4):=H
 have A4:=am_ A40
 clear A40
 simp only [Option.some.injEq,Prod.mk.injEq] at H
 obtain ⟨rfl,rfl,rfl,rfl⟩:=H
 go_enter Tryd.func16,Tryd.ntmps16
 go_wp2_with (first | ((with_reducible refine gate_dst (N:=2) rfl ?_); refine boxE_ (N:=2) (cs:=#[.int .i64 a0_0,.int .i64 a0_1,.slice A0_2 l0_2.length c0_2,.slice A0_3 l0_3.length c0_3]) (t:=33) ?_; intro gb114 hg w5 hbox hb; have n0_:=am_ (below_step (bl0_ HB.out) hb); have n1_:=am_ (hbox); have n2_:=am_ ((bs0_ hg HB.out:w.heap.size ≤ gb114)); have n3_:=am_ ((bs0_ hg HB.out:w.heap.size ≤ gb114)); clear HB; have HB:=n0_; have BK114:=n1_; have GW114:=n2_; have GE114:=n3_; clear n0_ n1_ n2_ n3_; clear hb hbox hg) | ((with_reducible refine gate_dst (N:=4) rfl ?_); refine boxE_ (N:=4) (cs:=#[.int .i64 0,.int .i64 0,.slice none 0 0,.slice none 0 0]) (t:=36) ?_; intro gb115 hg w6 hbox hb; have n0_:=am_ (bb_ BK114.out hb); have n1_:=am_ (below_step (bl1_ HB.out GE114.out) hb); have n2_:=am_ (hbox); have n3_:=am_ ((bs1_ hg HB.out GE114.out:w.heap.size ≤ gb115)); have n4_:=am_ ((bs1_ hg HB.out GE114.out:w.heap.size ≤ gb115)); have n5_:=am_ ((nl_ hg BK114.out:gb114 ≠ gb115)); have n6_:=am_ ((ng_ hg BK114.out:gb115 ≠ gb114)); clear BK114; clear HB; have BK114:=n0_; have HB:=n1_; have BK115:=n2_; have GW115:=n3_; have GE115:=n4_; have NB114_115:=n5_; have NB115_114:=n6_; clear n0_ n1_ n2_ n3_ n4_ n5_ n6_; clear hb hbox hg) | ((with_reducible refine gate_dst (N:=5) rfl ?_); refine boxE_ (N:=5) (cs:=#[.int .i64 0,.int .i64 0,.slice none 0 0,.slice none 0 0]) (t:=36) ?_; intro gb116 hg w7 hbox hb; have n0_:=am_ (bb_ BK114.out hb); have n1_:=am_ (bb_ BK115.out hb); have n2_:=am_ (below_step (bl2_ HB.out GE114.out GE115.out) hb); have n3_:=am_ (hbox); have n4_:=am_ ((bs2_ hg HB.out GE114.out GE115.out:w.heap.size ≤ gb116)); have n5_:=am_ ((bs2_ hg HB.out GE114.out GE115.out:w.heap.size ≤ gb116)); have n6_:=am_ ((nl_ hg BK114.out:gb114 ≠ gb116)); have n7_:=am_ ((ng_ hg BK114.out:gb116 ≠ gb114)); have n8_:=am_ ((nl_ hg BK115.out:gb115 ≠ gb116)); have n9_:=am_ ((ng_ hg BK115.out:gb116 ≠ gb115)); clear BK114; clear BK115; clear HB; have BK114:=n0_; have BK115:=n1_; have HB:=n2_; have BK116:=n3_; have GW116:=n4_; have GE116:=n5_; have NB114_116:=n6_; have NB116_114:=n7_; have NB115_116:=n8_; have NB116_115:=n9_; clear n0_ n1_ n2_ n3_ n4_ n5_ n6_ n7_ n8_ n9_; clear hb hbox hg; have hnb8:=NB114_115.out; have hnc8:=NB115_114.out; have hnb9:=NB114_116.out; have hnc9:=NB116_114.out; have hcz10_0:w7.cell? ⟨gb114,0,none⟩ = some (.int .i64 a0_0):=(bc_ BK114.out 0).trans rfl; have hcz10_1:w7.cell? ⟨gb114,1,none⟩ = some (.int .i64 a0_1):=(bc_ BK114.out 1).trans rfl; have hcz10_2:w7.cell? ⟨gb114,2,none⟩ = some (.slice A0_2 l0_2.length c0_2):=(bc_ BK114.out 2).trans rfl; have hcz10_3:w7.cell? ⟨gb114,3,none⟩ = some (.slice A0_3 l0_3.length c0_3):=(bc_ BK114.out 3).trans rfl; have hfz10_0:=bz_ BK114.out 0; have hfz10_1:=bz_ BK114.out 1; have hfz10_2:=bz_ BK114.out 2; have hfz10_3:=bz_ BK114.out 3; have hnb11:=NB116_115.out; have hnc11:=NB115_116.out; have hcz12_0:w7.cell? ⟨gb116,0,none⟩ = some (.int .i64 0):=(bc_ BK116.out 0).trans rfl; have hcz12_1:w7.cell? ⟨gb116,1,none⟩ = some (.int .i64 0):=(bc_ BK116.out 1).trans rfl; have hcz12_2:w7.cell? ⟨gb116,2,none⟩ = some (.slice none 0 0):=(bc_ BK116.out 2).trans rfl; have hcz12_3:w7.cell? ⟨gb116,3,none⟩ = some (.slice none 0 0):=(bc_ BK116.out 3).trans rfl; have hfz12_0:=bz_ BK116.out 0; have hfz12_1:=bz_ BK116.out 1; have hfz12_2:=bz_ BK116.out 2; have hfz12_3:=bz_ BK116.out 3) | ((with_reducible refine gate_callee (f:=35) rfl ?_); refine goesL_ (some 15) rfl rfl Tryd.func35 (by kernel_rfl) rfl #[.slice A0_2 l0_2.length c0_2,.bool a1] rfl ob_ ?_; (with_reducible refine (laws_toIntS.calls k _ _ l0_2 a1 t117 _ ?side1 ?side2 A3.out).mono ?_); (case side1 => exact Kd.C_below HR0_2.out (bl3_ HB.out GE114.out GE115.out GE116.out)); (case side2 => exact HC0_2.out); rintro e w13 ⟨v118,rfl,ho0,hb⟩; refine ⟨_,rfl,?_⟩; have n0_:=am_ (Kd.R_lower ho0 (below_size (bl3_ HB.out GE114.out GE115.out GE116.out))); have n1_:=am_ (blk_below (g:=gb114) (o:=.cells #[.int .i64 a0_0,.int .i64 a0_1,.slice A0_2 l0_2.length c0_2,.slice A0_3 l0_3.length c0_3] 33 (0,0)) (bf2_ NB114_116.out NB114_116.out BK114.out) hb); have n2_:=am_ (blk_below (g:=gb115) (o:=.cells #[.int .i64 0,.int .i64 0,.slice none 0 0,.slice none 0 0] 36 (0,0)) (bf2_ NB115_116.out NB115_116.out BK115.out) hb); have n3_:=am_ (blk_below (g:=gb116) (o:=.cells #[.int .i64 a0_0,.int .i64 a0_1,.slice none 0 0,.slice none 0 0] 36 (0,0)) (by (with_reducible repeat (first | refine blk_drewN ?_ _ | refine blk_drew ?_ | refine blk_alloc ?_ _)); refine blk_put (cs:=#[.int .i64 a0_0,.int .i64 0,.slice none 0 0,.slice none 0 0]) ?_ 1 _ rfl; (with_reducible repeat (first | refine blk_drewN ?_ _ | refine blk_drew ?_ | refine blk_alloc ?_ _)); refine blk_put (cs:=#[.int .i64 0,.int .i64 0,.slice none 0 0,.slice none 0 0]) ?_ 0 _ rfl; (with_reducible repeat (first | refine blk_drewN ?_ _ | refine blk_drew ?_ | refine blk_alloc ?_ _)); exact BK116.out) hb); have n4_:=am_ (below_step (bl3_ HB.out GE114.out GE115.out GE116.out) hb); clear BK114; clear BK115; clear BK116; clear HB; have HO119:=n0_; have BK114:=n1_; have BK115:=n2_; have BK116:=n3_; have HB:=n4_; clear n0_ n1_ n2_ n3_ n4_; (try clear hb); (try clear hb2); (try clear hk); (try clear hi); (try clear ho0); obtain ⟨Ao14,co14,eo14⟩:=Kd.R_slice HO119.out; subst eo14; have hcz15_0:w13.cell? ⟨gb116,0,none⟩ = some (.int .i64 a0_0):=(bc_ BK116.out 0).trans rfl; have hcz15_1:w13.cell? ⟨gb116,1,none⟩ = some (.int .i64 a0_1):=(bc_ BK116.out 1).trans rfl; have hcz15_2:w13.cell? ⟨gb116,2,none⟩ = some (.slice none 0 0):=(bc_ BK116.out 2).trans rfl; have hcz15_3:w13.cell? ⟨gb116,3,none⟩ = some (.slice none 0 0):=(bc_ BK116.out 3).trans rfl; have hfz15_0:=bz_ BK116.out 0; have hfz15_1:=bz_ BK116.out 1; have hfz15_2:=bz_ BK116.out 2; have hfz15_3:=bz_ BK116.out 3; have hcz16_0:w13.cell? ⟨gb114,0,none⟩ = some (.int .i64 a0_0):=(bc_ BK114.out 0).trans rfl; have hcz16_1:w13.cell? ⟨gb114,1,none⟩ = some (.int .i64 a0_1):=(bc_ BK114.out 1).trans rfl; have hcz16_2:w13.cell? ⟨gb114,2,none⟩ = some (.slice A0_2 l0_2.length c0_2):=(bc_ BK114.out 2).trans rfl; have hcz16_3:w13.cell? ⟨gb114,3,none⟩ = some (.slice A0_3 l0_3.length c0_3):=(bc_ BK114.out 3).trans rfl; have hfz16_0:=bz_ BK114.out 0; have hfz16_1:=bz_ BK114.out 1; have hfz16_2:=bz_ BK114.out 2; have hfz16_3:=bz_ BK114.out 3) | ((with_reducible refine gate_callee (f:=35) rfl ?_); refine goesL_ (some 20) rfl rfl Tryd.func35 (by kernel_rfl) rfl #[.slice A0_3 l0_3.length c0_3,.bool a1] rfl ob_ ?_; (with_reducible refine (laws_toIntS.calls k _ _ l0_3 a1 t120 _ ?side1 ?side2 A4.out).mono ?_); (case side1 => exact Kd.C_below HR0_3.out (bl3_ HB.out GE114.out GE115.out GE116.out)); (case side2 => exact HC0_3.out); rintro e w17 ⟨v121,rfl,ho0,hb⟩; refine ⟨_,rfl,?_⟩; have n0_:=am_ (Kd.R_elder' (by (with_reducible repeat (first | apply Kd.R_alloc | apply Kd.R_drewN | apply Kd.R_drew)); exact (Kd.R_mono (Kd.R_far (p:=⟨gb116,2,none⟩) (Kd.R_types HO119.out BK116.out (by decide)) (fun _ hk => hk.2) (.slice Ao14 t117.length co14)) (fun _ h_ => h_.1))) (Kd.R_base ho0) hb); have n1_:=am_ (Kd.R_lower (Kd.R_new' ho0 (Kd.R_lt (by (with_reducible repeat (first | apply Kd.R_alloc | apply Kd.R_drewN | apply Kd.R_drew)); exact (Kd.R_mono (Kd.R_far (p:=⟨gb116,2,none⟩) (Kd.R_types HO119.out BK116.out (by decide)) (fun _ hk => hk.2) (.slice Ao14 t117.length co14)) (fun _ h_ => h_.1))))) (below_size (bl3_ HB.out GE114.out GE115.out GE116.out))); have n2_:=am_ (blk_below (g:=gb114) (o:=.cells #[.int .i64 a0_0,.int .i64 a0_1,.slice A0_2 l0_2.length c0_2,.slice A0_3 l0_3.length c0_3] 33 (0,0)) (bf1_ NB114_116.out BK114.out) hb); have n3_:=am_ (blk_below (g:=gb115) (o:=.cells #[.int .i64 0,.int .i64 0,.slice none 0 0,.slice none 0 0] 36 (0,0)) (bf1_ NB115_116.out BK115.out) hb); have n4_:=am_ (blk_below (g:=gb116) (o:=.cells #[.int .i64 a0_0,.int .i64 a0_1,.slice Ao14 t117.length co14,.slice none 0 0] 36 (0,0)) (by (with_reducible repeat (first | refine blk_drewN ?_ _ | refine blk_drew ?_ | refine blk_alloc ?_ _)); refine blk_put (cs:=#[.int .i64 a0_0,.int .i64 a0_1,.slice none 0 0,.slice none 0 0]) ?_ 2 _ rfl; (with_reducible repeat (first | refine blk_drewN ?_ _ | refine blk_drew ?_ | refine blk_alloc ?_ _)); exact BK116.out) hb); have n5_:=am_ (below_step (bl3_ HB.out GE114.out GE115.out GE116.out) hb); clear HO119; clear BK114; clear BK115; clear BK116; clear HB; have HO119:=n0_; have HO122:=n1_; have BK114:=n2_; have BK115:=n3_; have BK116:=n4_; have HB:=n5_; clear n0_ n1_ n2_ n3_ n4_ n5_; (try clear hb); (try clear hb2); (try clear hk); (try clear hi); (try clear ho0); obtain ⟨Ao18,co18,eo18⟩:=Kd.R_slice HO122.out; subst eo18; have hcz19_0:w17.cell? ⟨gb116,0,none⟩ = some (.int .i64 a0_0):=(bc_ BK116.out 0).trans rfl; have hcz19_1:w17.cell? ⟨gb116,1,none⟩ = some (.int .i64 a0_1):=(bc_ BK116.out 1).trans rfl; have hcz19_2:w17.cell? ⟨gb116,2,none⟩ = some (.slice Ao14 t117.length co14):=(bc_ BK116.out 2).trans rfl; have hcz19_3:w17.cell? ⟨gb116,3,none⟩ = some (.slice none 0 0):=(bc_ BK116.out 3).trans rfl; have hfz19_0:=bz_ BK116.out 0; have hfz19_1:=bz_ BK116.out 1; have hfz19_2:=bz_ BK116.out 2; have hfz19_3:=bz_ BK116.out 3; have hcz20_0:w17.cell? ⟨gb115,0,none⟩ = some (.int .i64 0):=(bc_ BK115.out 0).trans rfl; have hcz20_1:w17.cell? ⟨gb115,1,none⟩ = some (.int .i64 0):=(bc_ BK115.out 1).trans rfl; have hcz20_2:w17.cell? ⟨gb115,2,none⟩ = some (.slice none 0 0):=(bc_ BK115.out 2).trans rfl; have hcz20_3:w17.cell? ⟨gb115,3,none⟩ = some (.slice none 0 0):=(bc_ BK115.out 3).trans rfl; have hfz20_0:=bz_ BK115.out 0; have hfz20_1:=bz_ BK115.out 1; have hfz20_2:=bz_ BK115.out 2; have hfz20_3:=bz_ BK115.out 3))
 refine bodyPost_ret (results_cell_row rfl _ _ gb115 36 #[.int .i64 a0_0,.int .i64 a0_1,.slice Ao14 t117.length co14,.slice Ao18 t120.length co18] (0,0) _ rfl (by (with_reducible repeat (first | refine blk_drewN ?_ _ | refine blk_drew ?_ | refine blk_alloc ?_ _)); refine blk_put (cs:=#[.int .i64 a0_0,.int .i64 a0_1,.slice Ao14 t117.length co14,.slice none 0 0]) ?_ 3 _ rfl; (with_reducible repeat (first | refine blk_drewN ?_ _ | refine blk_drew ?_ | refine blk_alloc ?_ _)); refine blk_put (cs:=#[.int .i64 a0_0,.int .i64 a0_1,.slice none 0 0,.slice none 0 0]) ?_ 2 _ rfl; (with_reducible repeat (first | refine blk_drewN ?_ _ | refine blk_drew ?_ | refine blk_alloc ?_ _)); refine blk_put (cs:=#[.int .i64 a0_0,.int .i64 0,.slice none 0 0,.slice none 0 0]) ?_ 1 _ rfl; (with_reducible repeat (first | refine blk_drewN ?_ _ | refine blk_drew ?_ | refine blk_alloc ?_ _)); refine blk_put (cs:=#[.int .i64 0,.int .i64 0,.slice none 0 0,.slice none 0 0]) ?_ 0 _ rfl; (with_reducible repeat (first | refine blk_drewN ?_ _ | refine blk_drew ?_ | refine blk_alloc ?_ _)); refine blk_far ?_ NB115_116.out _; (with_reducible repeat (first | refine blk_drewN ?_ _ | refine blk_drew ?_ | refine blk_alloc ?_ _)); exact BK115.out) Tryd.underlying36 rfl (by kernel_rfl)) rfl ?_
 exact ⟨_,_,er_,by (with_reducible repeat (first | apply Kd.R_alloc | apply Kd.R_drewN | apply Kd.R_drew)); exact Kd.R_mono (Kd.R_far (p:=⟨gb115,3,none⟩) (Kd.R_far (p:=⟨gb115,2,none⟩) (Kd.R_far (p:=⟨gb115,1,none⟩) (Kd.R_far (p:=⟨gb115,0,none⟩) (Kd.R_far (p:=⟨gb116,3,none⟩) (Kd.R_types (Kd.R_types HO119.out BK116.out (by decide)) BK115.out (by decide)) (fun _ hk => hk.1.2) (.slice Ao18 t120.length co18)) (fun _ hk => hk.2) (.int .i64 a0_0)) (fun _ hk => hk.2) (.int .i64 a0_1)) (fun _ hk => hk.2) (.slice Ao14 t117.length co14)) (fun _ hk => hk.2) (.slice Ao18 t120.length co18)) (fun _ hk => hk.1.1.2),by (with_reducible repeat (first | apply Kd.R_alloc | apply Kd.R_drewN | apply Kd.R_drew)); exact Kd.R_mono (Kd.R_far (p:=⟨gb115,3,none⟩) (Kd.R_far (p:=⟨gb115,2,none⟩) (Kd.R_far (p:=⟨gb115,1,none⟩) (Kd.R_far (p:=⟨gb115,0,none⟩) (Kd.R_far (p:=⟨gb116,3,none⟩) (Kd.R_types (Kd.R_types HO122.out BK116.out (by decide)) BK115.out (by decide)) (fun _ hk => hk.1.2) (.slice Ao18 t120.length co18)) (fun _ hk => hk.2) (.int .i64 a0_0)) (fun _ hk => hk.2) (.int .i64 a0_1)) (fun _ hk => hk.2) (.slice Ao14 t117.length co14)) (fun _ hk => hk.2) (.slice Ao18 t120.length co18)) (fun _ hk => hk.1.1.2),bl3_ HB.out GE114.out GE115.out GE116.out⟩


theorem szFigure_ok (a b:Int) (l m:List Int) (h:l.length + m.length ≤ 1000000):laws_szFigure.f a b l m 1000000 = some (1000000 - (l.length:Int) - (m.length:Int)):=by
  have e1:wrap64 (1000000 - (l.length:Int)) = 1000000 - (l.length:Int):=by unfold wrap64; omega
  have e2:wrap64 (1000000 - (l.length:Int) - (m.length:Int)) = 1000000 - (l.length:Int) - (m.length:Int):=by unfold wrap64; omega
  unfold laws_szFigure.f laws_szIntS.f
  rw [e1,if_neg (by omega)]
  simp only [Option.bind_some]
  rw [if_neg (by omega),e2,if_neg (by omega)]
  simp only [Option.bind_some]
  rw [if_neg (by omega)]
theorem szFigure_no (a b:Int) (l m:List Int) (hl:l.length ≤ 140737488355328) (hm:m.length ≤ 140737488355328) (h:¬ l.length + m.length ≤ 1000000):laws_szFigure.f a b l m 1000000 = some (-1):=by
  have e1:wrap64 (1000000 - (l.length:Int)) = 1000000 - (l.length:Int):=by unfold wrap64; omega
  have e2:wrap64 (1000000 - (l.length:Int) - (m.length:Int)) = 1000000 - (l.length:Int) - (m.length:Int):=by unfold wrap64; omega
  unfold laws_szFigure.f laws_szIntS.f
  rw [e1]
  by_cases hx:1000000 - (l.length:Int) < 0
  · rw [if_pos hx]; simp
  · rw [if_neg hx]
    simp only [Option.bind_some]
    rw [if_neg hx,e2,if_pos (by omega)]
    simp
theorem toIntS_l1 (l:List Int) (hb:l.length ≤ 1000000):∀ (d k:Nat) (kk:Nat),l.length + roomN l.length - kk = d → l.length ≤ kk → kk ≤ l.length + roomN l.length → d < k →
    laws_toIntS.l1 k l (l ++ List.replicate (kk - l.length) (-7000000000000000101) ++ List.replicate (l.length + roomN l.length - kk) 0) (kk:Int) = some l:=by
  have hm:=roomN_le l.length
  intro d
  induction d with
  | zero =>
    intro k kk h1 h2 h3 h4
    obtain ⟨k,rfl⟩:∃ m,k = m + 1:=⟨k - 1,by omega⟩
    have hlen:=room_len2 l (l.length + roomN l.length) kk h2 h3
    simp only [laws_toIntS.l1]
    rw [hlen,if_neg (by omega),if_pos (by omega),if_pos (by omega),Int.toNat_natCast,List.append_assoc,List.take_left' rfl]
  | succ d ih =>
    intro k kk h1 h2 h3 h4
    obtain ⟨k,rfl⟩:∃ m,k = m + 1:=⟨k - 1,by omega⟩
    have hlen:=room_len2 l (l.length + roomN l.length) kk h2 h3
    have e:wrap64 ((kk:Int) + 1) = ((kk + 1:Nat):Int):=by unfold wrap64; omega
    simp only [laws_toIntS.l1]
    rw [hlen,if_pos (by omega),if_pos (by omega),Int.toNat_natCast,e,room_step2 l (l.length + roomN l.length) kk h2 (by omega)]
    exact ih k (kk + 1) (by omega) (by omega) (by omega) (by omega)
theorem toIntS_l0 (l:List Int) (hb:l.length ≤ 1000000):∀ (d k:Nat) (kk:Nat),l.length - kk = d → kk ≤ l.length → d + roomN l.length + 2 < k →
    laws_toIntS.l0 k l (l.take kk ++ List.replicate (l.length + roomN l.length - kk) 0) (kk:Int) = some l:=by
  have hm:=roomN_le l.length
  intro d
  induction d with
  | zero =>
    intro k kk h1 h2 h3
    obtain ⟨k,rfl⟩:∃ m,k = m + 1:=⟨k - 1,by omega⟩
    obtain rfl:kk = l.length:=by omega
    simp only [laws_toIntS.l0]
    rw [if_neg (by omega),room_mid l (l.length + roomN l.length)]
    exact toIntS_l1 l hb _ k l.length rfl (by omega) (by omega) (by omega)
  | succ d ih =>
    intro k kk h1 h2 h3
    obtain ⟨k,rfl⟩:∃ m,k = m + 1:=⟨k - 1,by omega⟩
    have hlen:=room_len1 l (l.length + roomN l.length) kk h2 (by omega)
    have e:wrap64 ((kk:Int) + 1) = ((kk + 1:Nat):Int):=by unfold wrap64; omega
    simp only [laws_toIntS.l0]
    rw [hlen,if_pos (by omega),if_pos (by omega),if_pos (by omega),Int.toNat_natCast,e,room_step1 l (l.length + roomN l.length) kk (by omega) (by omega)]
    exact ih k (kk + 1) (by omega) (by omega) (by omega)
theorem toIntS_f (l:List Int) (b:Bool) (hb:l.length ≤ 1000000) (k:Nat) (hk:3000010 < k):laws_toIntS.f k l b = some l:=by
  have hm:=roomN_le l.length
  have hk2:l.length + roomN l.length + 5 < k:=by omega
  clear hk
  have key:laws_toIntS.j0 k l false = some l:=by
    obtain ⟨k,rfl⟩:∃ m,k = m + 1:=⟨k - 1,by omega⟩
    simp only [laws_toIntS.j0]
    rw [if_neg (show ¬ (false = true) by decide),roomN_f,Option.bind_some]
    have e:wrap64 ((l.length:Int) + (roomN l.length:Int)) = ((l.length + roomN l.length:Nat):Int):=by unfold wrap64; omega
    have c1:(0:Int) ≤ ((l.length + roomN l.length:Nat):Int):=Int.natCast_nonneg _
    have c2:((l.length + roomN l.length:Nat):Int).toNat ≤ 35184372088832:=by rw [Int.toNat_natCast]; omega
    rw [e,if_pos c1,if_pos c2,Int.toNat_natCast,room_at0 l]
    clear c1 c2 e
    exact toIntS_l0 l hb _ k 0 rfl (by omega) (by omega)
  unfold laws_toIntS.f
  cases b with
  | false => rw [if_neg (show ¬ (false = true) by decide)]; exact key
  | true =>
    rw [if_pos rfl]
    by_cases h0:l.length = 0
    · have:l = []:=List.length_eq_zero_iff.1 h0
      subst this
      obtain ⟨k,rfl⟩:∃ m,k = m + 1:=⟨k - 1,by omega⟩
      clear key hk2
      simp only [laws_toIntS.j0]
      simp
    · rw [show ((l.length:Int) == 0) = false from by rw [beq_eq_false_iff_ne]; omega]
      exact key
theorem toFigure_f (a b:Int) (l m:List Int) (c:Bool) (hl:l.length ≤ 1000000) (hm:m.length ≤ 1000000) (k:Nat) (hk:3000010 < k):laws_toFigure.f k a b l m c = some (a,b,l,m):=by
  unfold laws_toFigure.f
  rw [toIntS_f l c hl k hk]
  simp only [Option.bind_some]
  rw [toIntS_f m c hm k hk]
  rfl


def laws_markIntS.l0:Nat → List Int → Int → Int → Option (Int × List Int)
  | 0,_,_,_ => none
  | k + 1,x0,x1,x5 => if x5 < (x0.length:Int) then (if 0 ≤ x5 then (laws_markIntS.l0 k (x0.set (x5:Int).toNat x1) (wrap64 (x1 + 1)) (wrap64 (x5 + 1))) else (none)) else (some (x1,x0))
def laws_markIntS.f (k:Nat) (l0:List Int) (a1:Int):Option (Int × List Int):=laws_markIntS.l0 k l0 a1 0
theorem laws_markIntS.mono_l:∀ k,(∀ y0 y1 y2,LeO (laws_markIntS.l0 k y0 y1 y2) (laws_markIntS.l0 (k + 1) y0 y1 y2))
  | 0 => fun _ _ _ r h => by simp [laws_markIntS.l0] at h
  | k + 1 => by
    have ih0:=laws_markIntS.mono_l k
    · intro y0 y1 y2
      unfold laws_markIntS.l0
      repeat' first | (with_reducible first | exact ih0 _ _ _ | exact LeO.refl _ | exact LeO.none _ | refine LeO.ite ?_ ?_ | refine LeO.bind ?_ (fun _ => ?_)) | exact ih0 _ _ _
theorem laws_markIntS.mono:∀ a0 a1 k,LeO (laws_markIntS.f k a0 a1) (laws_markIntS.f (k + 1) a0 a1):=by
  intro a0 a1 k
  have ih0:=laws_markIntS.mono_l k
  unfold laws_markIntS.f
  repeat' first | (with_reducible first | exact ih0 _ _ _ | exact LeO.refl _ | exact LeO.none _ | refine LeO.ite ?_ ?_ | refine LeO.bind ?_ (fun _ => ?_)) | exact ih0 _ _ _
set_option maxHeartbeats 8000000 in
set_option maxRecDepth 100000 in
theorem laws_markIntS.calls (k:Nat) (P0_:Nat → Prop) (u9000_:Value) (l0:List Int) (a1:Int) (r1:Int) (r2:List Int) (w0 w:World) (hB:Below w0.heap.size w0 w) (ho0:Kd.R (Kd.int .i64) 3 w w0.heap.size P0_ u9000_ l0) (h:laws_markIntS.f k l0 a1 = some (r1,r2)) :
    Calls Tryd.prog 59 #[u9000_,.int .i64 a1] w fun e w' => e = .returned (.int .i64 r1) ∧ Kd.R (Kd.int .i64) 3 w' w0.heap.size (fun k_ => (P0_ k_ ∨ w.heap.size ≤ k_)) u9000_ r2 ∧ Below w0.heap.size w0 w' ∧ Kept w w' (fun k_ => P0_ k_):=by
  have HO0:=am_ (show Kd.R (Kd.int .i64) 3 w w0.heap.size (fun k_ => (P0_ k_ ∨ w.heap.size ≤ k_)) u9000_ l0 from Kd.R_mono ho0 (fun k_ hk => (.inl hk)))
  have HK:=am_ (Kept.refl w (fun k_ => P0_ k_))
  have HW0:=am_ hB.size
  have HB:=am_ hB
  clear hB
  have H:(laws_markIntS.l0 k l0 a1 0) = some (r1,r2):=h
  clear h
  have H':=am_ H
  clear H
  go_enter Tryd.func59,Tryd.ntmps59
  go_wp2
  go_loopg [1,5] k (fun kq v1 v5 w' => ∃ (x0_1:List Int) (x1_1:Int) (x5_1:Int),v1 = .int .i64 x1_1 ∧ v5 = .int .i64 x5_1 ∧ Aside0 (laws_markIntS.l0 kq x0_1 x1_1 x5_1 = some (r1,r2)) ∧ Aside0 (kq ≤ k) ∧ Aside0 (Kd.R (Kd.int .i64) 3 w' w0.heap.size (fun k_ => (P0_ k_ ∨ w.heap.size ≤ k_)) u9000_ x0_1) ∧ Aside0 (Kept w w' (fun k_ => P0_ k_)) ∧ Aside0 (Below w0.heap.size w0 w'))
  case atStart => exact ⟨(l0),(a1),(0),rs_,rs_,H',⟨Nat.le_refl _⟩,⟨kr_ HO0.out⟩,⟨by repeat (first | (with_reducible first | exact HK.out | apply Kept.alloc | apply Kept.drewN | apply Kept.drew) | exact HK.out)⟩,⟨bl0_ HB.out⟩⟩
  case round =>
    clear H'
    try clear p2
    obtain ⟨x0_1,x1_1,x5_1,rfl,rfl,HA,HK1,HO_0,HK,HB⟩:=hrel
    cases gk with
    | zero => exact absurd HA.out (by simp [laws_markIntS.l0])
    | succ k1 =>
      have H:=HA.out
      clear HA
      simp only [laws_markIntS.l0] at H
      by_cases c3:x5_1 < (x0_1.length:Int)
      · rw [if_pos c3] at H
        have c3b0:decide (x5_1 < (x0_1.length:Int)) = true:=decide_eq_true c3
        clear c3
        by_cases c4:0 ≤ x5_1
        · rw [if_pos c4] at H
          have c4b0:decide (0 ≤ x5_1) = true:=decide_eq_true c4
          clear c4
          obtain ⟨y234,hy234⟩:∃ y_:List Int,y_ = (x0_1.set (x5_1:Int).toNat x1_1):=⟨_,rfl⟩
          replace H:(laws_markIntS.l0 k1 y234 (wrap64 (x1_1 + 1)) (wrap64 (x5_1 + 1))) = some (r1,r2):=by first | (rw [hy234]; with_reducible exact H) | (have H2_:=(Option.bind_some _ _).symm.trans H; rw [hy234]; with_reducible exact H2_) | (have H2_:=(Option.bind_some _ _).symm.trans H; with_reducible exact H2_) | with_reducible exact H | (rw [hy234]; exact H) | exact H
          have Ny234:=am_ hy234
          clear hy234
          have H':=am_ H
          clear H
          obtain ⟨Ao6,co6,eo6⟩:=Kd.R_slice HO_0.out
          subst eo6
          have p5:0 ≤ (x5_1:Int):=of_decide_eq_true as_
          have q5:(x5_1:Int) < ((x0_1.length:Int):Int):=of_decide_eq_true as_
          obtain ⟨go5,co5,eo5,gb5,gl5,cl5,HG5⟩:=Kd.R_form HO_0.out (by omega)
          (first | cases eo5 | (injection eo5 with ea_ en_ ec_; (first | subst ea_ | (injection ea_ with ea_; subst ea_)); subst ec_; clear en_))
          have GB5:=am_ gb5
          have GG5:=am_ HG5
          clear gb5 gl5 HG5
          have HMgo5:=am_ (show (P0_ go5 ∨ w.heap.size ≤ go5) from (HO_0.out.1 _ rfl))
          obtain ⟨hx5_0,hf5_0⟩:=Kd.R_celln 0 HO_0.out (x5_1:Int) p5 q5
          replace p5:=eq_true p5
          replace q5:=eq_true q5
          have HP7:=Kd.R_putg HO_0.out (x5_1:Int) x1_1
          go_wp2_with (first | ((with_reducible refine gate_store (t:=3) (p:=15) rfl ?_); refine store_event (t:=3) (p:=15) (v:=?vo_w8) (w1:=(wr.setCell ⟨go5,(x5_1:Int).toNat,none⟩ (.int .i64 x1_1))) ?hg ?ho ?hn ?hr ?_; (case ho => rfl); (case hg => rfl); (case hn => rfl); (case hr => first | (go_simp; done) | (go_simp; rfl)); intro w8 hw; have hg:wr.grownBy w8 (some go5):=(by rw [hw]; exact HP7.2); have hp_:Kd.R (Kd.int .i64) 3 w8 w0.heap.size (fun k_ => (P0_ k_ ∨ w.heap.size ≤ k_)) (.slice (some ⟨go5,0,none⟩) x0_1.length co6) y234:=(by rw [hw,Ny234.out]; exact HP7.1); clear HP7; have n0_:=am_ (hp_); have n1_:=am_ ((by rw [hw]; exact below_set (HB.out) GB5.out:Below w0.heap.size w0 w8)); have n2_:=am_ (Kept.of_grown (S:=(fun k_ => P0_ k_)) hg (by repeat (first | (with_reducible first | exact HK.out | apply Kept.alloc | apply Kept.drewN | apply Kept.drew) | exact HK.out)) (fun k_ e_ => (HO_0.out.1 k_ e_))); clear HO_0; clear HB; clear HK; have HO_0:=n0_; have HB:=n1_; have HK:=n2_; clear n0_ n1_ n2_; clear hg hw hp_))
          go_roundg k1
          case measure => have:=HK1.out; omega
          case rel => exact ⟨(y234),(wrap64 (x1_1 + 1)),(wrap64 (x5_1 + 1)),rs_,rs_,H',⟨by have:=HK1.out; omega⟩,⟨kr_ HO_0.out⟩,⟨by repeat (first | (with_reducible first | exact HK.out | apply Kept.alloc | apply Kept.drewN | apply Kept.drew) | exact HK.out)⟩,⟨bl0_ HB.out⟩⟩
        · rw [if_neg c4] at H
          exact absurd H (by simp)
      · rw [if_neg c3] at H
        have c3b0:decide (x5_1 < (x0_1.length:Int)) = false:=decide_eq_false c3
        clear c3
        simp only [Option.some.injEq,Prod.mk.injEq] at H
        obtain ⟨rfl,rfl⟩:=H
        obtain ⟨Ao9,co9,eo9⟩:=Kd.R_slice HO_0.out
        subst eo9
        go_wp2
        go_ret
        exact ⟨er_,by (with_reducible repeat (first | apply Kd.R_alloc | apply Kd.R_drewN | apply Kd.R_drew)); exact HO_0.out,bl0_ HB.out,by repeat (first | (with_reducible first | exact HK.out | apply Kept.alloc | apply Kept.drewN | apply Kept.drew) | exact HK.out)⟩


def laws_markFigure.f (k:Nat) (a0_0:Int) (a0_1:Int) (l0_2:List Int) (l0_3:List Int) (a1:Int):Option (Int × List Int × List Int):=(laws_markIntS.f k l0_2 a1).bind fun bt236 => ((laws_markIntS.f k l0_3 bt236.1).bind fun bt238 => (some (bt238.1,bt236.2,bt238.2)))
theorem laws_markFigure.mono:∀ a0 a1 a2 a3 a4 k,LeO (laws_markFigure.f k a0 a1 a2 a3 a4) (laws_markFigure.f (k + 1) a0 a1 a2 a3 a4):=by
 intro a0 a1 a2 a3 a4 k
 unfold laws_markFigure.f
 repeat' first | (with_reducible first | exact laws_markIntS.mono _ _ _ | exact LeO.refl _ | exact LeO.none _ | refine LeO.ite ?_ ?_ | refine LeO.bind ?_ (fun _ => ?_)) | exact laws_markIntS.mono _ _ _
set_option maxHeartbeats 8000000 in
set_option maxRecDepth 100000 in
theorem laws_markFigure.calls (k:Nat) (a0_0:Int) (a0_1:Int) (P0_2_:Nat → Prop) (u9000_:Value) (l0_2:List Int) (P0_3_:Nat → Prop) (u9001_:Value) (l0_3:List Int) (a1:Int) (r1:Int) (r2:List Int) (r3:List Int) (w0 w:World) (hB:Below w0.heap.size w0 w) (ho0_2:Kd.R (Kd.int .i64) 3 w w0.heap.size P0_2_ u9000_ l0_2) (hp0_2_0_3:∀ k_,P0_2_ k_ → ¬ P0_3_ k_) (ho0_3:Kd.R (Kd.int .i64) 3 w w0.heap.size P0_3_ u9001_ l0_3) (hp0_3_0_2:∀ k_,P0_3_ k_ → ¬ P0_2_ k_) (h:laws_markFigure.f k a0_0 a0_1 l0_2 l0_3 a1 = some (r1,r2,r3)) :
  Calls Tryd.prog 24 #[.agg #[.int .i64 a0_0,.int .i64 a0_1,u9000_,u9001_],.int .i64 a1] w fun e w' => e = .returned (.int .i64 r1) ∧ Kd.R (Kd.int .i64) 3 w' w0.heap.size (fun k_ => ((P0_2_ k_ ∨ P0_3_ k_) ∨ w.heap.size ≤ k_)) u9000_ r2 ∧ Kd.R (Kd.int .i64) 3 w' w0.heap.size (fun k_ => ((P0_2_ k_ ∨ P0_3_ k_) ∨ w.heap.size ≤ k_)) u9001_ r3 ∧ Below w0.heap.size w0 w' ∧ Kept w w' (fun k_ => P0_2_ k_ ∨ P0_3_ k_):=by
 have hu36:=Tryd.underlying36
 have HO0_2:=am_ (show Kd.R (Kd.int .i64) 3 w w0.heap.size (fun k_ => ((P0_2_ k_ ∨ P0_3_ k_) ∨ w.heap.size ≤ k_) ∧ some k_ ≠ (u9001_:Value).ownBlock) u9000_ l0_2 from Kd.R_mono ho0_2 (fun k_ hk => ⟨(.inl (.inl hk)),fun e_ => hp0_2_0_3 k_ hk (ho0_3.1 k_ e_.symm)⟩))
 have HO0_3:=am_ (show Kd.R (Kd.int .i64) 3 w w0.heap.size (fun k_ => ((P0_2_ k_ ∨ P0_3_ k_) ∨ w.heap.size ≤ k_) ∧ some k_ ≠ (u9000_:Value).ownBlock) u9001_ l0_3 from Kd.R_mono ho0_3 (fun k_ hk => ⟨(.inl (.inr hk)),fun e_ => hp0_3_0_2 k_ hk (ho0_2.1 k_ e_.symm)⟩))
 have HK:=am_ (Kept.refl w (fun k_ => P0_2_ k_ ∨ P0_3_ k_))
 have HW0:=am_ hB.size
 have HB:=am_ hB
 clear hB
 have H:((laws_markIntS.f k l0_2 a1).bind fun bt236 => ((laws_markIntS.f k l0_3 bt236.1).bind fun bt238 => (some (bt238.1,bt236.2,bt238.2)))) = some (r1,r2,r3):=h
 clear h
 replace H:=bi_ H
 obtain ⟨⟨t236,t237⟩,A30,H⟩:=H
 replace H:((laws_markIntS.f k l0_3 t236).bind fun bt238 => (some (bt238.1,t237,bt238.2))) = some (r1,r2,r3):=H
 have A3:=am_ A30
 clear A30
 replace H:=bi_ H
 obtain ⟨⟨t238,t239⟩,A40,H⟩:=H
 replace H:(some (t238,t237,t239)) = some (r1,r2,r3):=H
 have A4:=am_ A40
 clear A40
 simp only [Option.some.injEq,Prod.mk.injEq] at H
 obtain ⟨rfl,rfl,rfl⟩:=H
 obtain ⟨Ao5,co5,eo5⟩:=Kd.R_slice HO0_2.out
 subst eo5
 obtain ⟨Ao6,co6,eo6⟩:=Kd.R_slice HO0_3.out
 subst eo6
 go_enter Tryd.func24,Tryd.ntmps24
 go_wp2_with (first | ((with_reducible refine gate_dst (N:=2) rfl ?_); refine boxE_ (N:=2) (cs:=#[.int .i64 a0_0,.int .i64 a0_1,.slice Ao5 l0_2.length co5,.slice Ao6 l0_3.length co6]) (t:=36) ?_; intro gb235 hg w7 hbox hb; have n0_:=am_ (Kd.R_below (kr_ HO0_2.out) hb); have n1_:=am_ (Kd.R_below (kr_ HO0_3.out) hb); have n2_:=am_ (Kept.below (S:=(fun k_ => P0_2_ k_ ∨ P0_3_ k_)) (by repeat (first | (with_reducible first | exact HK.out | apply Kept.alloc | apply Kept.drewN | apply Kept.drew) | exact HK.out)) hb); have n3_:=am_ (below_step (bl0_ HB.out) hb); have n4_:=am_ (hbox); have n5_:=am_ ((by rw [hg]; exact (by first | exact HK.out.1 | exact (show Kept w _ (fun k_ => P0_2_ k_ ∨ P0_3_ k_) from by repeat (first | (with_reducible first | exact HK.out | apply Kept.alloc | apply Kept.drewN | apply Kept.drew) | exact HK.out)).1):w.heap.size ≤ gb235)); have n6_:=am_ ((bs0_ hg HB.out:w0.heap.size ≤ gb235)); clear HO0_2; clear HO0_3; clear HK; clear HB; have HO0_2:=n0_; have HO0_3:=n1_; have HK:=n2_; have HB:=n3_; have BK235:=n4_; have GW235:=n5_; have GE235:=n6_; clear n0_ n1_ n2_ n3_ n4_ n5_ n6_; clear hb hbox hg; have hcz8_0:w7.cell? ⟨gb235,0,none⟩ = some (.int .i64 a0_0):=(bc_ BK235.out 0).trans rfl; have hcz8_1:w7.cell? ⟨gb235,1,none⟩ = some (.int .i64 a0_1):=(bc_ BK235.out 1).trans rfl; have hcz8_2:w7.cell? ⟨gb235,2,none⟩ = some (.slice Ao5 l0_2.length co5):=(bc_ BK235.out 2).trans rfl; have hcz8_3:w7.cell? ⟨gb235,3,none⟩ = some (.slice Ao6 l0_3.length co6):=(bc_ BK235.out 3).trans rfl; have hfz8_0:=bz_ BK235.out 0; have hfz8_1:=bz_ BK235.out 1; have hfz8_2:=bz_ BK235.out 2; have hfz8_3:=bz_ BK235.out 3) | ((with_reducible refine gate_callee (f:=59) rfl ?_); refine goesL_ (some 8) rfl rfl Tryd.func59 (by kernel_rfl) rfl #[.slice Ao5 l0_2.length co5,.int .i64 a1] rfl ob_ ?_; (with_reducible refine (laws_markIntS.calls k (fun k_ => some k_ = (.slice Ao5 l0_2.length co5:Value).ownBlock) (.slice Ao5 l0_2.length co5) l0_2 a1 t236 t237 w0 _ ?side1 ?side2 A3.out).mono ?_); (case side1 => repeat (first | (with_reducible first | exact HB.out | apply below_alloc | apply pw_below_drewN | apply below_drew1 | refine below_set ?_ GE235.out) | exact HB.out)); (case side2 => exact Kd.R_tight rfl HO0_2.out); rintro e w9 ⟨rfl,hy0,hb,hkp⟩; refine ⟨_,rfl,?_⟩; have n0_:=am_ (Kd.R_reok rfl hy0 (fun k_ e_ => HO0_2.out.1 k_ e_)); have n1_:=am_ (Kd.R_mono (ok':=fun k_ => ((P0_2_ k_ ∨ P0_3_ k_) ∨ w.heap.size ≤ k_) ∧ some k_ ≠ (.slice Ao5 l0_2.length co5:Value).ownBlock) (Kd.R_keptB (HO0_3.out) hkp (fun k_ hk_ hs_ => (hk_.2) hs_)) (fun k_ hk_ => ⟨hk_.1.1,hk_.1.2⟩)); have n2_:=am_ (blk_kept (bk_ BK235.out) hkp (fun hs_ => (fun e_ => (Kd.R_ne HO0_2.out BK235.out (by decide)) e_) hs_)); have n3_:=am_ (Kept.then_ (S:=(fun k_ => P0_2_ k_ ∨ P0_3_ k_)) (by repeat (first | (with_reducible first | exact HK.out | apply Kept.alloc | apply Kept.drewN | apply Kept.drew | refine Kept.setCell ?_ (.inr GW235.out) _) | exact HK.out)) hkp (fun k_ hs_ => (fun e_ => (HO0_2.out.1 k_ e_.symm).1) hs_)); have n4_:=am_ (hb); clear HO0_2; clear HO0_3; clear BK235; clear HK; clear HB; have HO0_2:=n0_; have HO0_3:=n1_; have BK235:=n2_; have HK:=n3_; have HB:=n4_; clear n0_ n1_ n2_ n3_ n4_; (try clear hb); (try clear hkp); (try clear hy0); have hcz10_0:w9.cell? ⟨gb235,0,none⟩ = some (.int .i64 a0_0):=(bc_ BK235.out 0).trans rfl; have hcz10_1:w9.cell? ⟨gb235,1,none⟩ = some (.int .i64 a0_1):=(bc_ BK235.out 1).trans rfl; have hcz10_2:w9.cell? ⟨gb235,2,none⟩ = some (.slice Ao5 l0_2.length co5):=(bc_ BK235.out 2).trans rfl; have hcz10_3:w9.cell? ⟨gb235,3,none⟩ = some (.slice Ao6 l0_3.length co6):=(bc_ BK235.out 3).trans rfl; have hfz10_0:=bz_ BK235.out 0; have hfz10_1:=bz_ BK235.out 1; have hfz10_2:=bz_ BK235.out 2; have hfz10_3:=bz_ BK235.out 3) | ((with_reducible refine gate_callee (f:=59) rfl ?_); refine goesL_ (some 12) rfl rfl Tryd.func59 (by kernel_rfl) rfl #[.slice Ao6 l0_3.length co6,.int .i64 t236] rfl ob_ ?_; (with_reducible refine (laws_markIntS.calls k (fun k_ => some k_ = (.slice Ao6 l0_3.length co6:Value).ownBlock) (.slice Ao6 l0_3.length co6) l0_3 t236 t238 t239 w0 _ ?side1 ?side2 A4.out).mono ?_); (case side1 => repeat (first | (with_reducible first | exact HB.out | apply below_alloc | apply pw_below_drewN | apply below_drew1 | refine below_set ?_ GE235.out) | exact HB.out)); (case side2 => exact Kd.R_tight rfl HO0_3.out); rintro e w11 ⟨rfl,hy0,hb,hkp⟩; refine ⟨_,rfl,?_⟩; have n0_:=am_ (Kd.R_mono (ok':=fun k_ => ((P0_2_ k_ ∨ P0_3_ k_) ∨ w.heap.size ≤ k_) ∧ some k_ ≠ (.slice Ao6 l0_3.length co6:Value).ownBlock) (Kd.R_keptB (HO0_2.out) hkp (fun k_ hk_ hs_ => (hk_.2) hs_)) (fun k_ hk_ => ⟨hk_.1.1,hk_.1.2⟩)); have n1_:=am_ (Kd.R_reok rfl hy0 (fun k_ e_ => HO0_3.out.1 k_ e_)); have n2_:=am_ (blk_kept (bk_ BK235.out) hkp (fun hs_ => (fun e_ => (Kd.R_ne HO0_3.out BK235.out (by decide)) e_) hs_)); have n3_:=am_ (Kept.then_ (S:=(fun k_ => P0_2_ k_ ∨ P0_3_ k_)) (by repeat (first | (with_reducible first | exact HK.out | apply Kept.alloc | apply Kept.drewN | apply Kept.drew | refine Kept.setCell ?_ (.inr GW235.out) _) | exact HK.out)) hkp (fun k_ hs_ => (fun e_ => (HO0_3.out.1 k_ e_.symm).1) hs_)); have n4_:=am_ (hb); clear HO0_2; clear HO0_3; clear BK235; clear HK; clear HB; have HO0_2:=n0_; have HO0_3:=n1_; have BK235:=n2_; have HK:=n3_; have HB:=n4_; clear n0_ n1_ n2_ n3_ n4_; (try clear hb); (try clear hkp); (try clear hy0)))
 go_ret
 exact ⟨er_,by (with_reducible repeat (first | apply Kd.R_alloc | apply Kd.R_drewN | apply Kd.R_drew)); exact Kd.R_mono HO0_2.out (fun _ hk => hk.1),by (with_reducible repeat (first | apply Kd.R_alloc | apply Kd.R_drewN | apply Kd.R_drew)); exact Kd.R_mono HO0_3.out (fun _ hk => hk.1),bl1_ HB.out GE235.out,by repeat (first | (with_reducible first | exact HK.out | apply Kept.alloc | apply Kept.drewN | apply Kept.drew | refine Kept.setCell ?_ (.inr GW235.out) _) | exact HK.out)⟩


def marks (n:Nat) (a:Int):List Int:=(List.range n).map fun (i:Nat) => a + (i:Int)
theorem markIntS_l0 (l:List Int) (a:Int) (ha:0 ≤ a) (hb:(l.length:Int) + a ≤ 100000000):∀ (d k kk:Nat),l.length - kk = d → kk ≤ l.length → d < k →
    laws_markIntS.l0 k (marks kk a ++ l.drop kk) (a + kk) (kk:Int) = some (a + l.length,marks l.length a):=by
  intro d
  induction d with
  | zero =>
    intro k kk h1 h2 h3
    obtain ⟨k,rfl⟩:∃ m,k = m + 1:=⟨k - 1,by omega⟩
    obtain rfl:kk = l.length:=by omega
    have hl:(marks l.length a ++ l.drop l.length).length = l.length:=by simp [marks]
    simp only [laws_markIntS.l0]
    rw [hl,if_neg (by omega),List.drop_length,List.append_nil]
  | succ d ih =>
    intro k kk h1 h2 h3
    obtain ⟨k,rfl⟩:∃ m,k = m + 1:=⟨k - 1,by omega⟩
    have hl:(marks kk a ++ l.drop kk).length = l.length:=by simp [marks]; omega
    have hmk:(marks kk a).length = kk:=by simp [marks]
    have e1:wrap64 (a + (kk:Int) + 1) = a + ((kk + 1:Nat):Int):=by unfold wrap64; omega
    have e2:wrap64 ((kk:Int) + 1) = ((kk + 1:Nat):Int):=by unfold wrap64; omega
    have e3:(marks kk a ++ l.drop kk).set kk (a + (kk:Int)) = marks (kk + 1) a ++ l.drop (kk + 1):=by
      rw [List.drop_eq_getElem_cons (show kk < l.length by omega),List.set_append,if_neg (by omega),hmk,Nat.sub_self,List.set_cons_zero]
      simp [marks,List.range_succ]
    simp only [laws_markIntS.l0]
    rw [hl,if_pos (by omega),if_pos (by omega),Int.toNat_natCast,e3,e1,e2]
    exact ih k (kk + 1) (by omega) (by omega) (by omega)
theorem markIntS_f (l:List Int) (a:Int) (ha:0 ≤ a) (hb:(l.length:Int) + a ≤ 100000000) (k:Nat) (hk:l.length < k):laws_markIntS.f k l a = some (a + l.length,marks l.length a):=by
  unfold laws_markIntS.f
  have:=markIntS_l0 l a ha hb l.length k 0 (by omega) (by omega) hk
  simpa [marks] using this
theorem markFigure_f (x y:Int) (l m:List Int) (hb:l.length + m.length ≤ 1000000) (k:Nat) (hk:3000010 < k):laws_markFigure.f k x y l m 101 = some (101 + (l.length:Int) + (m.length:Int),marks l.length 101,marks m.length (101 + (l.length:Int))):=by
  unfold laws_markFigure.f
  rw [markIntS_f l 101 (by omega) (by omega) k (by omega)]
  simp only [Option.bind_some]
  rw [markIntS_f m _ (by omega) (by omega) k (by omega)]
  rfl


def laws_eqIntS.l0:Nat → List Int → List Int → Int → Option (Bool)
  | 0,_,_,_ => none
  | k + 1,x0,x1,x5 => if x5 < (x0.length:Int) then (if 0 ≤ x5 then (if x5 < (x1.length:Int) then (if (rd x0 x5) = (rd x1 x5) then (laws_eqIntS.l0 k x0 x1 (wrap64 (x5 + 1))) else (some false)) else (none)) else (none)) else (some true)
def laws_eqIntS.f (k:Nat) (l0:List Int) (l1:List Int):Option (Bool):=if (l0.length:Int) = (l1.length:Int) then (laws_eqIntS.l0 k l0 l1 0) else (some false)
theorem laws_eqIntS.mono_l:∀ k,(∀ y0 y1 y2,LeO (laws_eqIntS.l0 k y0 y1 y2) (laws_eqIntS.l0 (k + 1) y0 y1 y2))
  | 0 => fun _ _ _ r h => by simp [laws_eqIntS.l0] at h
  | k + 1 => by
    have ih0:=laws_eqIntS.mono_l k
    · intro y0 y1 y2
      unfold laws_eqIntS.l0
      repeat' first | (with_reducible first | exact ih0 _ _ _ | exact LeO.refl _ | exact LeO.none _ | refine LeO.ite ?_ ?_ | refine LeO.bind ?_ (fun _ => ?_)) | exact ih0 _ _ _
theorem laws_eqIntS.mono:∀ a0 a1 k,LeO (laws_eqIntS.f k a0 a1) (laws_eqIntS.f (k + 1) a0 a1):=by
  intro a0 a1 k
  have ih0:=laws_eqIntS.mono_l k
  unfold laws_eqIntS.f
  repeat' first | (with_reducible first | exact ih0 _ _ _ | exact LeO.refl _ | exact LeO.none _ | refine LeO.ite ?_ ?_ | refine LeO.bind ?_ (fun _ => ?_)) | exact ih0 _ _ _
set_option maxHeartbeats 8000000 in
set_option maxRecDepth 100000 in
theorem laws_eqIntS.calls (k:Nat) (A0:Option Addr) (c0:Nat) (l0:List Int) (A1:Option Addr) (c1:Nat) (l1:List Int) (r:Bool) (w:World) (hr0:Kd.C (Kd.int .i64) w A0 l0.length l0) (hc0:l0.length ≤ c0) (hr1:Kd.C (Kd.int .i64) w A1 l1.length l1) (hc1:l1.length ≤ c1) (h:laws_eqIntS.f k l0 l1 = some r) :
    Calls Tryd.prog 58 #[.slice A0 l0.length c0,.slice A1 l1.length c1] w fun e w' => e = .returned (.bool r) ∧ Drawn0 w w':=by
  have HR0:=am_ hr0
  have HC0:=am_ hc0
  clear hr0 hc0
  have HR1:=am_ hr1
  have HC1:=am_ hc1
  clear hr1 hc1
  have H:(if (l0.length:Int) = (l1.length:Int) then (laws_eqIntS.l0 k l0 l1 0) else (some false)) = some r:=h
  clear h
  by_cases c3:(l0.length:Int) = (l1.length:Int)
  · rw [if_pos c3] at H
    have c3b0:((l0.length:Int) == (l1.length:Int)) = true:=beq_iff_eq.mpr c3
    have c3b1:((l0.length:Int) != (l1.length:Int)) = false:=bne_eq_false_iff_eq.mpr c3
    have c3b2:(l0.length == l1.length) = true:=by first | simpa using c3 | (simp at c3 ⊢; omega)
    clear c3
    have H':=am_ H
    clear H
    go_enter Tryd.func58,Tryd.ntmps58
    go_wp2
    repeat (go_quiet (fail); try go_wp2)
    go_loopg [5] k (fun kq v5 w' => ∃ (x5_1:Int),v5 = .int .i64 x5_1 ∧ Aside0 (laws_eqIntS.l0 kq l0 l1 x5_1 = some r) ∧ Aside0 (kq ≤ k) ∧ Drawn0 w w')
    case atStart => exact ⟨(0),rs_,H',⟨Nat.le_refl _⟩,by repeat (first | exact Drawn0.refl _ | apply Drawn0.step)⟩
    case round =>
      clear H'
      try clear c1
      try clear p2
      try clear c3
      try clear c3b0
      try clear c3b1
      try clear c3b2
      obtain ⟨x5_1,rfl,HA,HK1,⟨m1,rfl⟩⟩:=hrel
      cases gk with
      | zero => exact absurd HA.out (by simp [laws_eqIntS.l0])
      | succ k1 =>
        have H:=HA.out
        clear HA
        simp only [laws_eqIntS.l0] at H
        by_cases c4:x5_1 < (l0.length:Int)
        · rw [if_pos c4] at H
          have c4b0:decide (x5_1 < (l0.length:Int)) = true:=decide_eq_true c4
          clear c4
          by_cases c5:0 ≤ x5_1
          · rw [if_pos c5] at H
            have c5b0:decide (0 ≤ x5_1) = true:=decide_eq_true c5
            clear c5
            by_cases c6:x5_1 < (l1.length:Int)
            · rw [if_pos c6] at H
              have c6b0:decide (x5_1 < (l1.length:Int)) = true:=decide_eq_true c6
              clear c6
              by_cases c7:(rd l0 x5_1) = (rd l1 x5_1)
              · rw [if_pos c7] at H
                have c7b0:((rd l0 x5_1) == (rd l1 x5_1)) = true:=beq_iff_eq.mpr c7
                have c7b1:((rd l0 x5_1) != (rd l1 x5_1)) = false:=bne_eq_false_iff_eq.mpr c7
                clear c7
                have H':=am_ H
                clear H
                have p123:0 ≤ (x5_1:Int):=of_decide_eq_true as_
                have q123:x5_1 < (l0.length:Int):=of_decide_eq_true as_
                obtain ⟨ad123,e123,hx123_0⟩:=Kd.at_int HR0.out x5_1 p123 q123
                cases e123
                replace p123:=eq_true p123
                replace q123:=eq_true q123
                have p124:0 ≤ (x5_1:Int):=of_decide_eq_true as_
                have q124:x5_1 < (l1.length:Int):=of_decide_eq_true as_
                obtain ⟨ad124,e124,hx124_0⟩:=Kd.at_int HR1.out x5_1 p124 q124
                cases e124
                replace p124:=eq_true p124
                replace q124:=eq_true q124
                go_wp2
                repeat (go_quiet (fail); try go_wp2)
                go_roundg k1
                case measure => have:=HK1.out; omega
                case rel => exact ⟨(wrap64 (x5_1 + 1)),rs_,H',⟨by have:=HK1.out; omega⟩,by repeat (first | exact Drawn0.refl _ | apply Drawn0.step)⟩
              · rw [if_neg c7] at H
                have c7b0:((rd l0 x5_1) == (rd l1 x5_1)) = false:=beq_eq_false_iff_ne.mpr c7
                have c7b1:((rd l0 x5_1) != (rd l1 x5_1)) = true:=bne_iff_ne.mpr c7
                obtain rfl:=Option.some.inj H
                have p123:0 ≤ (x5_1:Int):=of_decide_eq_true as_
                have q123:x5_1 < (l0.length:Int):=of_decide_eq_true as_
                obtain ⟨ad123,e123,hx123_0⟩:=Kd.at_int HR0.out x5_1 p123 q123
                cases e123
                replace p123:=eq_true p123
                replace q123:=eq_true q123
                have p124:0 ≤ (x5_1:Int):=of_decide_eq_true as_
                have q124:x5_1 < (l1.length:Int):=of_decide_eq_true as_
                obtain ⟨ad124,e124,hx124_0⟩:=Kd.at_int HR1.out x5_1 p124 q124
                cases e124
                replace p124:=eq_true p124
                replace q124:=eq_true q124
                go_wp2
                repeat (go_quiet (fail); try go_wp2)
                go_ret
                exact ⟨by first | rfl | (simp; done) | (simp [*]; done),by repeat (first | exact Drawn0.refl _ | apply Drawn0.step)⟩
            · rw [if_neg c6] at H
              exact absurd H (by simp)
          · rw [if_neg c5] at H
            exact absurd H (by simp)
        · rw [if_neg c4] at H
          have c4b0:decide (x5_1 < (l0.length:Int)) = false:=decide_eq_false c4
          clear c4
          obtain rfl:=Option.some.inj H
          go_wp2
          repeat (go_quiet (fail); try go_wp2)
          go_ret
          exact ⟨by first | rfl | (simp; done) | (simp [*]; done),by repeat (first | exact Drawn0.refl _ | apply Drawn0.step)⟩
  · rw [if_neg c3] at H
    have c3b0:((l0.length:Int) == (l1.length:Int)) = false:=beq_eq_false_iff_ne.mpr c3
    have c3b1:((l0.length:Int) != (l1.length:Int)) = true:=bne_iff_ne.mpr c3
    have c3b2:(l0.length == l1.length) = false:=by first | simpa using c3 | (simp at c3 ⊢; omega)
    obtain rfl:=Option.some.inj H
    go_enter Tryd.func58,Tryd.ntmps58
    go_wp2
    repeat (go_quiet (fail); try go_wp2)
    go_ret
    exact ⟨by first | rfl | (simp; done) | (simp [*]; done),by repeat (first | exact Drawn0.refl _ | apply Drawn0.step)⟩


def laws_heldIntS.l0:Nat → List Int → Int → Int → Option (Int)
  | 0,_,_,_ => none
  | k + 1,x0,x1,x5 => if x5 < (x0.length:Int) then (if 0 ≤ x5 then (if (rd x0 x5) = x1 then (laws_heldIntS.l0 k x0 (wrap64 (x1 + 1)) (wrap64 (x5 + 1))) else (some (-1))) else (none)) else (some x1)
def laws_heldIntS.f (k:Nat) (l0:List Int) (a1:Int):Option (Int):=laws_heldIntS.l0 k l0 a1 0
theorem laws_heldIntS.mono_l:∀ k,(∀ y0 y1 y2,LeO (laws_heldIntS.l0 k y0 y1 y2) (laws_heldIntS.l0 (k + 1) y0 y1 y2))
  | 0 => fun _ _ _ r h => by simp [laws_heldIntS.l0] at h
  | k + 1 => by
    have ih0:=laws_heldIntS.mono_l k
    · intro y0 y1 y2
      unfold laws_heldIntS.l0
      repeat' first | (with_reducible first | exact ih0 _ _ _ | exact LeO.refl _ | exact LeO.none _ | refine LeO.ite ?_ ?_ | refine LeO.bind ?_ (fun _ => ?_)) | exact ih0 _ _ _
theorem laws_heldIntS.mono:∀ a0 a1 k,LeO (laws_heldIntS.f k a0 a1) (laws_heldIntS.f (k + 1) a0 a1):=by
  intro a0 a1 k
  have ih0:=laws_heldIntS.mono_l k
  unfold laws_heldIntS.f
  repeat' first | (with_reducible first | exact ih0 _ _ _ | exact LeO.refl _ | exact LeO.none _ | refine LeO.ite ?_ ?_ | refine LeO.bind ?_ (fun _ => ?_)) | exact ih0 _ _ _
set_option maxHeartbeats 8000000 in
set_option maxRecDepth 100000 in
theorem laws_heldIntS.calls (k:Nat) (A0:Option Addr) (c0:Nat) (l0:List Int) (a1:Int) (r:Int) (w:World) (hr0:Kd.C (Kd.int .i64) w A0 l0.length l0) (hc0:l0.length ≤ c0) (h:laws_heldIntS.f k l0 a1 = some r) :
    Calls Tryd.prog 60 #[.slice A0 l0.length c0,.int .i64 a1] w fun e w' => e = .returned (.int .i64 r) ∧ Drawn0 w w':=by
  have HR0:=am_ hr0
  have HC0:=am_ hc0
  clear hr0 hc0
  have H:(laws_heldIntS.l0 k l0 a1 0) = some r:=h
  clear h
  have H':=am_ H
  clear H
  go_enter Tryd.func60,Tryd.ntmps60
  go_wp2
  go_loopg [1,5] k (fun kq v1 v5 w' => ∃ (x1_1:Int) (x5_1:Int),v1 = .int .i64 x1_1 ∧ v5 = .int .i64 x5_1 ∧ Aside0 (laws_heldIntS.l0 kq l0 x1_1 x5_1 = some r) ∧ Aside0 (kq ≤ k) ∧ Drawn0 w w')
  case atStart => exact ⟨(a1),(0),rs_,rs_,H',⟨Nat.le_refl _⟩,by repeat (first | exact Drawn0.refl _ | apply Drawn0.step)⟩
  case round =>
    clear H'
    try clear p2
    obtain ⟨x1_1,x5_1,rfl,rfl,HA,HK1,⟨m1,rfl⟩⟩:=hrel
    cases gk with
    | zero => exact absurd HA.out (by simp [laws_heldIntS.l0])
    | succ k1 =>
      have H:=HA.out
      clear HA
      simp only [laws_heldIntS.l0] at H
      by_cases c3:x5_1 < (l0.length:Int)
      · rw [if_pos c3] at H
        have c3b0:decide (x5_1 < (l0.length:Int)) = true:=decide_eq_true c3
        clear c3
        by_cases c4:0 ≤ x5_1
        · rw [if_pos c4] at H
          have c4b0:decide (0 ≤ x5_1) = true:=decide_eq_true c4
          clear c4
          by_cases c5:(rd l0 x5_1) = x1_1
          · rw [if_pos c5] at H
            have c5b0:((rd l0 x5_1) == x1_1) = true:=beq_iff_eq.mpr c5
            have c5b1:((rd l0 x5_1) != x1_1) = false:=bne_eq_false_iff_eq.mpr c5
            clear c5
            have H':=am_ H
            clear H
            have p240:0 ≤ (x5_1:Int):=of_decide_eq_true as_
            have q240:x5_1 < (l0.length:Int):=of_decide_eq_true as_
            obtain ⟨ad240,e240,hx240_0⟩:=Kd.at_int HR0.out x5_1 p240 q240
            cases e240
            replace p240:=eq_true p240
            replace q240:=eq_true q240
            go_wp2
            go_roundg k1
            case measure => have:=HK1.out; omega
            case rel => exact ⟨(wrap64 (x1_1 + 1)),(wrap64 (x5_1 + 1)),rs_,rs_,H',⟨by have:=HK1.out; omega⟩,by repeat (first | exact Drawn0.refl _ | apply Drawn0.step)⟩
          · rw [if_neg c5] at H
            have c5b0:((rd l0 x5_1) == x1_1) = false:=beq_eq_false_iff_ne.mpr c5
            have c5b1:((rd l0 x5_1) != x1_1) = true:=bne_iff_ne.mpr c5
            obtain rfl:=Option.some.inj H
            have p240:0 ≤ (x5_1:Int):=of_decide_eq_true as_
            have q240:x5_1 < (l0.length:Int):=of_decide_eq_true as_
            obtain ⟨ad240,e240,hx240_0⟩:=Kd.at_int HR0.out x5_1 p240 q240
            cases e240
            replace p240:=eq_true p240
            replace q240:=eq_true q240
            go_wp2
            go_ret
            exact ⟨by first | rfl | (simp; done) | (simp [*]; done),by repeat (first | exact Drawn0.refl _ | apply Drawn0.step)⟩
        · rw [if_neg c4] at H
          exact absurd H (by simp)
      · rw [if_neg c3] at H
        have c3b0:decide (x5_1 < (l0.length:Int)) = false:=decide_eq_false c3
        clear c3
        obtain rfl:=Option.some.inj H
        go_wp2
        go_ret
        exact ⟨by first | rfl | (simp; done) | (simp [*]; done),by repeat (first | exact Drawn0.refl _ | apply Drawn0.step)⟩


theorem eqIntS_l0 (L:List Int) (hL:L.length ≤ 4000000):∀ (d:Nat) (k:Nat) (i:Nat),L.length - i = d → i ≤ L.length → d < k → laws_eqIntS.l0 k L L (i:Int) = some true:=by
  intro d
  induction d with
  | zero =>
    intro k i h1 h2 h3
    obtain ⟨k,rfl⟩:∃ m,k = m + 1:=⟨k - 1,by omega⟩
    simp only [laws_eqIntS.l0]
    rw [if_neg (by omega)]
  | succ d ih =>
    intro k i h1 h2 h3
    obtain ⟨k,rfl⟩:∃ m,k = m + 1:=⟨k - 1,by omega⟩
    simp only [laws_eqIntS.l0]
    rw [if_pos (by omega),if_pos (by omega),if_pos (by omega),if_pos trivial,show wrap64 ((i:Int) + 1) = ((i + 1:Nat):Int) by unfold wrap64; omega]
    exact ih k (i + 1) (by omega) (by omega) (by omega)
theorem eqIntS_refl (L:List Int) (hL:L.length ≤ 4000000) (k:Nat) (hk:L.length < k):laws_eqIntS.f k L L = some true:=by
  unfold laws_eqIntS.f
  rw [if_pos rfl]
  exact eqIntS_l0 L hL L.length k 0 (by omega) (by omega) hk
theorem marks_len (n:Nat) (a:Int):(marks n a).length = n:=by simp [marks]
theorem rd_marks (n:Nat) (a:Int) (i:Nat) (h:i < n):rd (marks n a) (i:Int) = a + (i:Int):=by
  rw [rd_nat _ _ (by rw [marks_len]; exact h)]
  simp [marks]
theorem heldIntS_l0 (n:Nat) (a:Int) (ha:0 ≤ a) (hb:(n:Int) + a ≤ 100000000):∀ (d k kk:Nat),n - kk = d → kk ≤ n → d < k → laws_heldIntS.l0 k (marks n a) (a + kk) (kk:Int) = some (a + n):=by
  intro d
  induction d with
  | zero =>
    intro k kk h1 h2 h3
    obtain ⟨k,rfl⟩:∃ m,k = m + 1:=⟨k - 1,by omega⟩
    obtain rfl:kk = n:=by omega
    simp only [laws_heldIntS.l0]
    rw [marks_len,if_neg (by omega)]
  | succ d ih =>
    intro k kk h1 h2 h3
    obtain ⟨k,rfl⟩:∃ m,k = m + 1:=⟨k - 1,by omega⟩
    have e1:wrap64 (a + (kk:Int) + 1) = a + ((kk + 1:Nat):Int):=by unfold wrap64; omega
    have e2:wrap64 ((kk:Int) + 1) = ((kk + 1:Nat):Int):=by unfold wrap64; omega
    simp only [laws_heldIntS.l0]
    rw [marks_len,if_pos (by omega),if_pos (by omega),rd_marks n a kk (by omega),e1,e2]
    first
      | (rw [if_pos rfl]; exact ih k (kk + 1) (by omega) (by omega) (by omega))
      | (rw [if_neg (by simp)]; exact ih k (kk + 1) (by omega) (by omega) (by omega))
theorem heldIntS_f (n:Nat) (a:Int) (ha:0 ≤ a) (hb:(n:Int) + a ≤ 100000000) (k:Nat) (hk:n < k):laws_heldIntS.f k (marks n a) a = some (a + (n:Int)):=by
  unfold laws_heldIntS.f
  have:=heldIntS_l0 n a ha hb n k 0 (by omega) (by omega) hk
  simpa using this

def laws_eqFigure.f (k:Nat) (a0_0:Int) (a0_1:Int) (l0_2:List Int) (l0_3:List Int) (a1_0:Int) (a1_1:Int) (l1_2:List Int) (l1_3:List Int):Option (Bool):=if a0_0 = a1_0 then (if a0_1 = a1_1 then ((laws_eqIntS.f k l0_2 l1_2).bind fun t232 => (if t232 = true then ((laws_eqIntS.f k l0_3 l1_3).bind fun t233 => (if t233 = true then (some true) else (some false))) else (some false))) else (some false)) else (some false)
theorem laws_eqFigure.mono:∀ a0 a1 a2 a3 a4 a5 a6 a7 k,LeO (laws_eqFigure.f k a0 a1 a2 a3 a4 a5 a6 a7) (laws_eqFigure.f (k + 1) a0 a1 a2 a3 a4 a5 a6 a7):=by
 intro a0 a1 a2 a3 a4 a5 a6 a7 k
 unfold laws_eqFigure.f
 repeat' first | (with_reducible first | exact laws_eqIntS.mono _ _ _ | exact LeO.refl _ | exact LeO.none _ | refine LeO.ite ?_ ?_ | refine LeO.bind ?_ (fun _ => ?_)) | exact laws_eqIntS.mono _ _ _
set_option maxHeartbeats 8000000 in
set_option maxRecDepth 100000 in
theorem laws_eqFigure.calls (k:Nat) (a0_0:Int) (a0_1:Int) (A0_2:Option Addr) (c0_2:Nat) (l0_2:List Int) (A0_3:Option Addr) (c0_3:Nat) (l0_3:List Int) (a1_0:Int) (a1_1:Int) (A1_2:Option Addr) (c1_2:Nat) (l1_2:List Int) (A1_3:Option Addr) (c1_3:Nat) (l1_3:List Int) (r:Bool) (w:World) (hr0_2:Kd.C (Kd.int .i64) w A0_2 l0_2.length l0_2) (hc0_2:l0_2.length ≤ c0_2) (hr0_3:Kd.C (Kd.int .i64) w A0_3 l0_3.length l0_3) (hc0_3:l0_3.length ≤ c0_3) (hr1_2:Kd.C (Kd.int .i64) w A1_2 l1_2.length l1_2) (hc1_2:l1_2.length ≤ c1_2) (hr1_3:Kd.C (Kd.int .i64) w A1_3 l1_3.length l1_3) (hc1_3:l1_3.length ≤ c1_3) (h:laws_eqFigure.f k a0_0 a0_1 l0_2 l0_3 a1_0 a1_1 l1_2 l1_3 = some r) :
  Calls Tryd.prog 23 #[.agg #[.int .i64 a0_0,.int .i64 a0_1,.slice A0_2 l0_2.length c0_2,.slice A0_3 l0_3.length c0_3],.agg #[.int .i64 a1_0,.int .i64 a1_1,.slice A1_2 l1_2.length c1_2,.slice A1_3 l1_3.length c1_3]] w fun e w' => e = .returned (.bool r) ∧ Below w.heap.size w w':=by
 have hu36:=Tryd.underlying36
 have HR0_2:=am_ hr0_2
 have HC0_2:=am_ hc0_2
 clear hr0_2 hc0_2
 have HR0_3:=am_ hr0_3
 have HC0_3:=am_ hc0_3
 clear hr0_3 hc0_3
 have HR1_2:=am_ hr1_2
 have HC1_2:=am_ hc1_2
 clear hr1_2 hc1_2
 have HR1_3:=am_ hr1_3
 have HC1_3:=am_ hc1_3
 clear hr1_3 hc1_3
 have HB:=am_ (Below.refl w.heap.size w)
 have H:(if a0_0 = a1_0 then (if a0_1 = a1_1 then ((laws_eqIntS.f k l0_2 l1_2).bind fun t232 => (if t232 = true then ((laws_eqIntS.f k l0_3 l1_3).bind fun t233 => (if t233 = true then (some true) else (some false))) else (some false))) else (some false)) else (some false)) = some r:=h
 clear h
 by_cases c3:a0_0 = a1_0
 ·rw [if_pos c3] at H
  have c3b0:(a0_0 == a1_0) = true:=beq_iff_eq.mpr c3
  have c3b1:(a0_0 != a1_0) = false:=bne_eq_false_iff_eq.mpr c3
  clear c3
  by_cases c4:a0_1 = a1_1
  ·rw [if_pos c4] at H
   have c4b0:(a0_1 == a1_1) = true:=beq_iff_eq.mpr c4
   have c4b1:(a0_1 != a1_1) = false:=bne_eq_false_iff_eq.mpr c4
   clear c4
   replace H:=bi_ H
   obtain ⟨t232,A50,H⟩:=H
   replace H:(if t232 = true then ((laws_eqIntS.f k l0_3 l1_3).bind fun t233 => (if t233 = true then (some true) else (some false))) else (some false)) = some r:=H
   have A5:=am_ A50
   clear A50
   by_cases c6:t232 = true
   ·subst c6
    have H1:((laws_eqIntS.f k l0_3 l1_3).bind fun t233 => (if t233 = true then (some true) else (some false))) = some r:=by rw [if_pos rfl] at H; exact H
    clear H
    have H:=H1
    clear H1
    replace H:=bi_ H
    obtain ⟨t233,A70,H⟩:=H
    replace H:(if t233 = true then (some true) else (some false)) = some r:=H
    have A7:=am_ A70
    clear A70
    by_cases c8:t233 = true
    ·subst c8
     have H1:(some true) = some r:=by rw [if_pos rfl] at H; exact H
     clear H
     have H:=H1
     clear H1
     obtain rfl:=Option.some.inj H
     go_enter Tryd.func23,Tryd.ntmps23
     go_wp2_with (first | ((with_reducible refine gate_dst (N:=2) rfl ?_); refine boxE_ (N:=2) (cs:=#[.int .i64 a0_0,.int .i64 a0_1,.slice A0_2 l0_2.length c0_2,.slice A0_3 l0_3.length c0_3]) (t:=36) ?_; intro gb230 hg w9 hbox hb; have n0_:=am_ (below_step (bl0_ HB.out) hb); have n1_:=am_ (hbox); have n2_:=am_ ((bs0_ hg HB.out:w.heap.size ≤ gb230)); have n3_:=am_ ((bs0_ hg HB.out:w.heap.size ≤ gb230)); clear HB; have HB:=n0_; have BK230:=n1_; have GW230:=n2_; have GE230:=n3_; clear n0_ n1_ n2_ n3_; clear hb hbox hg) | ((with_reducible refine gate_dst (N:=3) rfl ?_); refine boxE_ (N:=3) (cs:=#[.int .i64 a1_0,.int .i64 a1_1,.slice A1_2 l1_2.length c1_2,.slice A1_3 l1_3.length c1_3]) (t:=36) ?_; intro gb231 hg w10 hbox hb; have n0_:=am_ (bb_ BK230.out hb); have n1_:=am_ (below_step (bl1_ HB.out GE230.out) hb); have n2_:=am_ (hbox); have n3_:=am_ ((bs1_ hg HB.out GE230.out:w.heap.size ≤ gb231)); have n4_:=am_ ((bs1_ hg HB.out GE230.out:w.heap.size ≤ gb231)); have n5_:=am_ ((nl_ hg BK230.out:gb230 ≠ gb231)); have n6_:=am_ ((ng_ hg BK230.out:gb231 ≠ gb230)); clear BK230; clear HB; have BK230:=n0_; have HB:=n1_; have BK231:=n2_; have GW231:=n3_; have GE231:=n4_; have NB230_231:=n5_; have NB231_230:=n6_; clear n0_ n1_ n2_ n3_ n4_ n5_ n6_; clear hb hbox hg; have hnb11:=NB230_231.out; have hnc11:=NB231_230.out; have hcz12_0:w10.cell? ⟨gb230,0,none⟩ = some (.int .i64 a0_0):=(bc_ BK230.out 0).trans rfl; have hcz12_1:w10.cell? ⟨gb230,1,none⟩ = some (.int .i64 a0_1):=(bc_ BK230.out 1).trans rfl; have hcz12_2:w10.cell? ⟨gb230,2,none⟩ = some (.slice A0_2 l0_2.length c0_2):=(bc_ BK230.out 2).trans rfl; have hcz12_3:w10.cell? ⟨gb230,3,none⟩ = some (.slice A0_3 l0_3.length c0_3):=(bc_ BK230.out 3).trans rfl; have hfz12_0:=bz_ BK230.out 0; have hfz12_1:=bz_ BK230.out 1; have hfz12_2:=bz_ BK230.out 2; have hfz12_3:=bz_ BK230.out 3; have hcz13_0:w10.cell? ⟨gb231,0,none⟩ = some (.int .i64 a1_0):=(bc_ BK231.out 0).trans rfl; have hcz13_1:w10.cell? ⟨gb231,1,none⟩ = some (.int .i64 a1_1):=(bc_ BK231.out 1).trans rfl; have hcz13_2:w10.cell? ⟨gb231,2,none⟩ = some (.slice A1_2 l1_2.length c1_2):=(bc_ BK231.out 2).trans rfl; have hcz13_3:w10.cell? ⟨gb231,3,none⟩ = some (.slice A1_3 l1_3.length c1_3):=(bc_ BK231.out 3).trans rfl; have hfz13_0:=bz_ BK231.out 0; have hfz13_1:=bz_ BK231.out 1; have hfz13_2:=bz_ BK231.out 2; have hfz13_3:=bz_ BK231.out 3) | ((with_reducible refine gate_callee (f:=58) rfl ?_); refine goesL_ (some 19) rfl rfl Tryd.func58 (by kernel_rfl) rfl #[.slice A0_2 l0_2.length c0_2,.slice A1_2 l1_2.length c1_2] rfl ob_ ?_; (with_reducible refine (laws_eqIntS.calls k _ _ l0_2 _ _ l1_2 true _ ?side1 ?side2 ?side3 ?side4 A5.out).mono ?_); (case side1 => exact kc_ (Kd.C_below HR0_2.out HB.out)); (case side2 => exact HC0_2.out); (case side3 => exact kc_ (Kd.C_below HR1_2.out HB.out)); (case side4 => exact HC1_2.out); rintro e w' ⟨rfl,⟨nd,rfl⟩⟩; refine ⟨_,rfl,?_⟩) | ((with_reducible refine gate_callee (f:=58) rfl ?_); refine goesL_ (some 25) rfl rfl Tryd.func58 (by kernel_rfl) rfl #[.slice A0_3 l0_3.length c0_3,.slice A1_3 l1_3.length c1_3] rfl ob_ ?_; (with_reducible refine (laws_eqIntS.calls k _ _ l0_3 _ _ l1_3 true _ ?side1 ?side2 ?side3 ?side4 A7.out).mono ?_); (case side1 => repeat (first | exact (Kd.C_below HR0_3.out (bl2_ HB.out GE230.out GE231.out)) | (with_reducible refine Kd.C_alloc ?_ _) | (with_reducible refine Kd.C_drewN ?_ _) | (with_reducible refine Kd.C_drew ?_))); (case side2 => exact HC0_3.out); (case side3 => repeat (first | exact (Kd.C_below HR1_3.out (bl2_ HB.out GE230.out GE231.out)) | (with_reducible refine Kd.C_alloc ?_ _) | (with_reducible refine Kd.C_drewN ?_ _) | (with_reducible refine Kd.C_drew ?_))); (case side4 => exact HC1_3.out); rintro e w' ⟨rfl,⟨nd,rfl⟩⟩; refine ⟨_,rfl,?_⟩))
     go_ret
     exact ⟨er_,bl2_ HB.out GE230.out GE231.out⟩
    ·replace c8:=Bool.eq_false_iff.mpr c8
     subst c8
     have H1:(some false) = some r:=by rw [if_neg (show ¬ (false = true) by decide)] at H; exact H
     clear H
     have H:=H1
     clear H1
     obtain rfl:=Option.some.inj H
     go_enter Tryd.func23,Tryd.ntmps23
     go_wp2_with (first | ((with_reducible refine gate_dst (N:=2) rfl ?_); refine boxE_ (N:=2) (cs:=#[.int .i64 a0_0,.int .i64 a0_1,.slice A0_2 l0_2.length c0_2,.slice A0_3 l0_3.length c0_3]) (t:=36) ?_; intro gb230 hg w14 hbox hb; have n0_:=am_ (below_step (bl0_ HB.out) hb); have n1_:=am_ (hbox); have n2_:=am_ ((bs0_ hg HB.out:w.heap.size ≤ gb230)); have n3_:=am_ ((bs0_ hg HB.out:w.heap.size ≤ gb230)); clear HB; have HB:=n0_; have BK230:=n1_; have GW230:=n2_; have GE230:=n3_; clear n0_ n1_ n2_ n3_; clear hb hbox hg) | ((with_reducible refine gate_dst (N:=3) rfl ?_); refine boxE_ (N:=3) (cs:=#[.int .i64 a1_0,.int .i64 a1_1,.slice A1_2 l1_2.length c1_2,.slice A1_3 l1_3.length c1_3]) (t:=36) ?_; intro gb231 hg w15 hbox hb; have n0_:=am_ (bb_ BK230.out hb); have n1_:=am_ (below_step (bl1_ HB.out GE230.out) hb); have n2_:=am_ (hbox); have n3_:=am_ ((bs1_ hg HB.out GE230.out:w.heap.size ≤ gb231)); have n4_:=am_ ((bs1_ hg HB.out GE230.out:w.heap.size ≤ gb231)); have n5_:=am_ ((nl_ hg BK230.out:gb230 ≠ gb231)); have n6_:=am_ ((ng_ hg BK230.out:gb231 ≠ gb230)); clear BK230; clear HB; have BK230:=n0_; have HB:=n1_; have BK231:=n2_; have GW231:=n3_; have GE231:=n4_; have NB230_231:=n5_; have NB231_230:=n6_; clear n0_ n1_ n2_ n3_ n4_ n5_ n6_; clear hb hbox hg; have hnb16:=NB230_231.out; have hnc16:=NB231_230.out; have hcz17_0:w15.cell? ⟨gb230,0,none⟩ = some (.int .i64 a0_0):=(bc_ BK230.out 0).trans rfl; have hcz17_1:w15.cell? ⟨gb230,1,none⟩ = some (.int .i64 a0_1):=(bc_ BK230.out 1).trans rfl; have hcz17_2:w15.cell? ⟨gb230,2,none⟩ = some (.slice A0_2 l0_2.length c0_2):=(bc_ BK230.out 2).trans rfl; have hcz17_3:w15.cell? ⟨gb230,3,none⟩ = some (.slice A0_3 l0_3.length c0_3):=(bc_ BK230.out 3).trans rfl; have hfz17_0:=bz_ BK230.out 0; have hfz17_1:=bz_ BK230.out 1; have hfz17_2:=bz_ BK230.out 2; have hfz17_3:=bz_ BK230.out 3; have hcz18_0:w15.cell? ⟨gb231,0,none⟩ = some (.int .i64 a1_0):=(bc_ BK231.out 0).trans rfl; have hcz18_1:w15.cell? ⟨gb231,1,none⟩ = some (.int .i64 a1_1):=(bc_ BK231.out 1).trans rfl; have hcz18_2:w15.cell? ⟨gb231,2,none⟩ = some (.slice A1_2 l1_2.length c1_2):=(bc_ BK231.out 2).trans rfl; have hcz18_3:w15.cell? ⟨gb231,3,none⟩ = some (.slice A1_3 l1_3.length c1_3):=(bc_ BK231.out 3).trans rfl; have hfz18_0:=bz_ BK231.out 0; have hfz18_1:=bz_ BK231.out 1; have hfz18_2:=bz_ BK231.out 2; have hfz18_3:=bz_ BK231.out 3) | ((with_reducible refine gate_callee (f:=58) rfl ?_); refine goesL_ (some 19) rfl rfl Tryd.func58 (by kernel_rfl) rfl #[.slice A0_2 l0_2.length c0_2,.slice A1_2 l1_2.length c1_2] rfl ob_ ?_; (with_reducible refine (laws_eqIntS.calls k _ _ l0_2 _ _ l1_2 true _ ?side1 ?side2 ?side3 ?side4 A5.out).mono ?_); (case side1 => exact kc_ (Kd.C_below HR0_2.out HB.out)); (case side2 => exact HC0_2.out); (case side3 => exact kc_ (Kd.C_below HR1_2.out HB.out)); (case side4 => exact HC1_2.out); rintro e w' ⟨rfl,⟨nd,rfl⟩⟩; refine ⟨_,rfl,?_⟩) | ((with_reducible refine gate_callee (f:=58) rfl ?_); refine goesL_ (some 25) rfl rfl Tryd.func58 (by kernel_rfl) rfl #[.slice A0_3 l0_3.length c0_3,.slice A1_3 l1_3.length c1_3] rfl ob_ ?_; (with_reducible refine (laws_eqIntS.calls k _ _ l0_3 _ _ l1_3 false _ ?side1 ?side2 ?side3 ?side4 A7.out).mono ?_); (case side1 => repeat (first | exact (Kd.C_below HR0_3.out (bl2_ HB.out GE230.out GE231.out)) | (with_reducible refine Kd.C_alloc ?_ _) | (with_reducible refine Kd.C_drewN ?_ _) | (with_reducible refine Kd.C_drew ?_))); (case side2 => exact HC0_3.out); (case side3 => repeat (first | exact (Kd.C_below HR1_3.out (bl2_ HB.out GE230.out GE231.out)) | (with_reducible refine Kd.C_alloc ?_ _) | (with_reducible refine Kd.C_drewN ?_ _) | (with_reducible refine Kd.C_drew ?_))); (case side4 => exact HC1_3.out); rintro e w' ⟨rfl,⟨nd,rfl⟩⟩; refine ⟨_,rfl,?_⟩))
     go_ret
     exact ⟨er_,bl2_ HB.out GE230.out GE231.out⟩
   ·replace c6:=Bool.eq_false_iff.mpr c6
    subst c6
    have H1:(some false) = some r:=by rw [if_neg (show ¬ (false = true) by decide)] at H; exact H
    clear H
    have H:=H1
    clear H1
    obtain rfl:=Option.some.inj H
    go_enter Tryd.func23,Tryd.ntmps23
    go_wp2_with (first | ((with_reducible refine gate_dst (N:=2) rfl ?_); refine boxE_ (N:=2) (cs:=#[.int .i64 a0_0,.int .i64 a0_1,.slice A0_2 l0_2.length c0_2,.slice A0_3 l0_3.length c0_3]) (t:=36) ?_; intro gb230 hg w19 hbox hb; have n0_:=am_ (below_step (bl0_ HB.out) hb); have n1_:=am_ (hbox); have n2_:=am_ ((bs0_ hg HB.out:w.heap.size ≤ gb230)); have n3_:=am_ ((bs0_ hg HB.out:w.heap.size ≤ gb230)); clear HB; have HB:=n0_; have BK230:=n1_; have GW230:=n2_; have GE230:=n3_; clear n0_ n1_ n2_ n3_; clear hb hbox hg) | ((with_reducible refine gate_dst (N:=3) rfl ?_); refine boxE_ (N:=3) (cs:=#[.int .i64 a1_0,.int .i64 a1_1,.slice A1_2 l1_2.length c1_2,.slice A1_3 l1_3.length c1_3]) (t:=36) ?_; intro gb231 hg w20 hbox hb; have n0_:=am_ (bb_ BK230.out hb); have n1_:=am_ (below_step (bl1_ HB.out GE230.out) hb); have n2_:=am_ (hbox); have n3_:=am_ ((bs1_ hg HB.out GE230.out:w.heap.size ≤ gb231)); have n4_:=am_ ((bs1_ hg HB.out GE230.out:w.heap.size ≤ gb231)); have n5_:=am_ ((nl_ hg BK230.out:gb230 ≠ gb231)); have n6_:=am_ ((ng_ hg BK230.out:gb231 ≠ gb230)); clear BK230; clear HB; have BK230:=n0_; have HB:=n1_; have BK231:=n2_; have GW231:=n3_; have GE231:=n4_; have NB230_231:=n5_; have NB231_230:=n6_; clear n0_ n1_ n2_ n3_ n4_ n5_ n6_; clear hb hbox hg; have hnb21:=NB230_231.out; have hnc21:=NB231_230.out; have hcz22_0:w20.cell? ⟨gb230,0,none⟩ = some (.int .i64 a0_0):=(bc_ BK230.out 0).trans rfl; have hcz22_1:w20.cell? ⟨gb230,1,none⟩ = some (.int .i64 a0_1):=(bc_ BK230.out 1).trans rfl; have hcz22_2:w20.cell? ⟨gb230,2,none⟩ = some (.slice A0_2 l0_2.length c0_2):=(bc_ BK230.out 2).trans rfl; have hcz22_3:w20.cell? ⟨gb230,3,none⟩ = some (.slice A0_3 l0_3.length c0_3):=(bc_ BK230.out 3).trans rfl; have hfz22_0:=bz_ BK230.out 0; have hfz22_1:=bz_ BK230.out 1; have hfz22_2:=bz_ BK230.out 2; have hfz22_3:=bz_ BK230.out 3; have hcz23_0:w20.cell? ⟨gb231,0,none⟩ = some (.int .i64 a1_0):=(bc_ BK231.out 0).trans rfl; have hcz23_1:w20.cell? ⟨gb231,1,none⟩ = some (.int .i64 a1_1):=(bc_ BK231.out 1).trans rfl; have hcz23_2:w20.cell? ⟨gb231,2,none⟩ = some (.slice A1_2 l1_2.length c1_2):=(bc_ BK231.out 2).trans rfl; have hcz23_3:w20.cell? ⟨gb231,3,none⟩ = some (.slice A1_3 l1_3.length c1_3):=(bc_ BK231.out 3).trans rfl; have hfz23_0:=bz_ BK231.out 0; have hfz23_1:=bz_ BK231.out 1; have hfz23_2:=bz_ BK231.out 2; have hfz23_3:=bz_ BK231.out 3) | ((with_reducible refine gate_callee (f:=58) rfl ?_); refine goesL_ (some 19) rfl rfl Tryd.func58 (by kernel_rfl) rfl #[.slice A0_2 l0_2.length c0_2,.slice A1_2 l1_2.length c1_2] rfl ob_ ?_; (with_reducible refine (laws_eqIntS.calls k _ _ l0_2 _ _ l1_2 false _ ?side1 ?side2 ?side3 ?side4 A5.out).mono ?_); (case side1 => exact kc_ (Kd.C_below HR0_2.out HB.out)); (case side2 => exact HC0_2.out); (case side3 => exact kc_ (Kd.C_below HR1_2.out HB.out)); (case side4 => exact HC1_2.out); rintro e w' ⟨rfl,⟨nd,rfl⟩⟩; refine ⟨_,rfl,?_⟩))
    go_ret
    exact ⟨er_,bl2_ HB.out GE230.out GE231.out⟩
  ·rw [if_neg c4] at H
   have c4b0:(a0_1 == a1_1) = false:=beq_eq_false_iff_ne.mpr c4
   have c4b1:(a0_1 != a1_1) = true:=bne_iff_ne.mpr c4
   obtain rfl:=Option.some.inj H
   go_enter Tryd.func23,Tryd.ntmps23
   go_wp2_with (first | ((with_reducible refine gate_dst (N:=2) rfl ?_); refine boxE_ (N:=2) (cs:=#[.int .i64 a0_0,.int .i64 a0_1,.slice A0_2 l0_2.length c0_2,.slice A0_3 l0_3.length c0_3]) (t:=36) ?_; intro gb230 hg w24 hbox hb; have n0_:=am_ (below_step (bl0_ HB.out) hb); have n1_:=am_ (hbox); have n2_:=am_ ((bs0_ hg HB.out:w.heap.size ≤ gb230)); have n3_:=am_ ((bs0_ hg HB.out:w.heap.size ≤ gb230)); clear HB; have HB:=n0_; have BK230:=n1_; have GW230:=n2_; have GE230:=n3_; clear n0_ n1_ n2_ n3_; clear hb hbox hg) | ((with_reducible refine gate_dst (N:=3) rfl ?_); refine boxE_ (N:=3) (cs:=#[.int .i64 a1_0,.int .i64 a1_1,.slice A1_2 l1_2.length c1_2,.slice A1_3 l1_3.length c1_3]) (t:=36) ?_; intro gb231 hg w25 hbox hb; have n0_:=am_ (bb_ BK230.out hb); have n1_:=am_ (below_step (bl1_ HB.out GE230.out) hb); have n2_:=am_ (hbox); have n3_:=am_ ((bs1_ hg HB.out GE230.out:w.heap.size ≤ gb231)); have n4_:=am_ ((bs1_ hg HB.out GE230.out:w.heap.size ≤ gb231)); have n5_:=am_ ((nl_ hg BK230.out:gb230 ≠ gb231)); have n6_:=am_ ((ng_ hg BK230.out:gb231 ≠ gb230)); clear BK230; clear HB; have BK230:=n0_; have HB:=n1_; have BK231:=n2_; have GW231:=n3_; have GE231:=n4_; have NB230_231:=n5_; have NB231_230:=n6_; clear n0_ n1_ n2_ n3_ n4_ n5_ n6_; clear hb hbox hg; have hnb26:=NB230_231.out; have hnc26:=NB231_230.out; have hcz27_0:w25.cell? ⟨gb230,0,none⟩ = some (.int .i64 a0_0):=(bc_ BK230.out 0).trans rfl; have hcz27_1:w25.cell? ⟨gb230,1,none⟩ = some (.int .i64 a0_1):=(bc_ BK230.out 1).trans rfl; have hcz27_2:w25.cell? ⟨gb230,2,none⟩ = some (.slice A0_2 l0_2.length c0_2):=(bc_ BK230.out 2).trans rfl; have hcz27_3:w25.cell? ⟨gb230,3,none⟩ = some (.slice A0_3 l0_3.length c0_3):=(bc_ BK230.out 3).trans rfl; have hfz27_0:=bz_ BK230.out 0; have hfz27_1:=bz_ BK230.out 1; have hfz27_2:=bz_ BK230.out 2; have hfz27_3:=bz_ BK230.out 3; have hcz28_0:w25.cell? ⟨gb231,0,none⟩ = some (.int .i64 a1_0):=(bc_ BK231.out 0).trans rfl; have hcz28_1:w25.cell? ⟨gb231,1,none⟩ = some (.int .i64 a1_1):=(bc_ BK231.out 1).trans rfl; have hcz28_2:w25.cell? ⟨gb231,2,none⟩ = some (.slice A1_2 l1_2.length c1_2):=(bc_ BK231.out 2).trans rfl; have hcz28_3:w25.cell? ⟨gb231,3,none⟩ = some (.slice A1_3 l1_3.length c1_3):=(bc_ BK231.out 3).trans rfl; have hfz28_0:=bz_ BK231.out 0; have hfz28_1:=bz_ BK231.out 1; have hfz28_2:=bz_ BK231.out 2; have hfz28_3:=bz_ BK231.out 3))
   go_ret
   exact ⟨er_,bl2_ HB.out GE230.out GE231.out⟩
 ·rw [if_neg c3] at H
  have c3b0:(a0_0 == a1_0) = false:=beq_eq_false_iff_ne.mpr c3
  have c3b1:(a0_0 != a1_0) = true:=bne_iff_ne.mpr c3
  obtain rfl:=Option.some.inj H
  go_enter Tryd.func23,Tryd.ntmps23
  go_wp2_with (first | ((with_reducible refine gate_dst (N:=2) rfl ?_); refine boxE_ (N:=2) (cs:=#[.int .i64 a0_0,.int .i64 a0_1,.slice A0_2 l0_2.length c0_2,.slice A0_3 l0_3.length c0_3]) (t:=36) ?_; intro gb230 hg w29 hbox hb; have n0_:=am_ (below_step (bl0_ HB.out) hb); have n1_:=am_ (hbox); have n2_:=am_ ((bs0_ hg HB.out:w.heap.size ≤ gb230)); have n3_:=am_ ((bs0_ hg HB.out:w.heap.size ≤ gb230)); clear HB; have HB:=n0_; have BK230:=n1_; have GW230:=n2_; have GE230:=n3_; clear n0_ n1_ n2_ n3_; clear hb hbox hg) | ((with_reducible refine gate_dst (N:=3) rfl ?_); refine boxE_ (N:=3) (cs:=#[.int .i64 a1_0,.int .i64 a1_1,.slice A1_2 l1_2.length c1_2,.slice A1_3 l1_3.length c1_3]) (t:=36) ?_; intro gb231 hg w30 hbox hb; have n0_:=am_ (bb_ BK230.out hb); have n1_:=am_ (below_step (bl1_ HB.out GE230.out) hb); have n2_:=am_ (hbox); have n3_:=am_ ((bs1_ hg HB.out GE230.out:w.heap.size ≤ gb231)); have n4_:=am_ ((bs1_ hg HB.out GE230.out:w.heap.size ≤ gb231)); have n5_:=am_ ((nl_ hg BK230.out:gb230 ≠ gb231)); have n6_:=am_ ((ng_ hg BK230.out:gb231 ≠ gb230)); clear BK230; clear HB; have BK230:=n0_; have HB:=n1_; have BK231:=n2_; have GW231:=n3_; have GE231:=n4_; have NB230_231:=n5_; have NB231_230:=n6_; clear n0_ n1_ n2_ n3_ n4_ n5_ n6_; clear hb hbox hg; have hnb31:=NB230_231.out; have hnc31:=NB231_230.out; have hcz32_0:w30.cell? ⟨gb230,0,none⟩ = some (.int .i64 a0_0):=(bc_ BK230.out 0).trans rfl; have hcz32_1:w30.cell? ⟨gb230,1,none⟩ = some (.int .i64 a0_1):=(bc_ BK230.out 1).trans rfl; have hcz32_2:w30.cell? ⟨gb230,2,none⟩ = some (.slice A0_2 l0_2.length c0_2):=(bc_ BK230.out 2).trans rfl; have hcz32_3:w30.cell? ⟨gb230,3,none⟩ = some (.slice A0_3 l0_3.length c0_3):=(bc_ BK230.out 3).trans rfl; have hfz32_0:=bz_ BK230.out 0; have hfz32_1:=bz_ BK230.out 1; have hfz32_2:=bz_ BK230.out 2; have hfz32_3:=bz_ BK230.out 3; have hcz33_0:w30.cell? ⟨gb231,0,none⟩ = some (.int .i64 a1_0):=(bc_ BK231.out 0).trans rfl; have hcz33_1:w30.cell? ⟨gb231,1,none⟩ = some (.int .i64 a1_1):=(bc_ BK231.out 1).trans rfl; have hcz33_2:w30.cell? ⟨gb231,2,none⟩ = some (.slice A1_2 l1_2.length c1_2):=(bc_ BK231.out 2).trans rfl; have hcz33_3:w30.cell? ⟨gb231,3,none⟩ = some (.slice A1_3 l1_3.length c1_3):=(bc_ BK231.out 3).trans rfl; have hfz33_0:=bz_ BK231.out 0; have hfz33_1:=bz_ BK231.out 1; have hfz33_2:=bz_ BK231.out 2; have hfz33_3:=bz_ BK231.out 3))
  go_ret
  exact ⟨er_,bl2_ HB.out GE230.out GE231.out⟩


def laws_heldFigure.f (k:Nat) (a0_0:Int) (a0_1:Int) (l0_2:List Int) (l0_3:List Int) (a1:Int):Option (Int):=(laws_heldIntS.f k l0_2 a1).bind fun t242 => (if t242 < 0 then (some (-1)) else ((laws_heldIntS.f k l0_3 t242).bind fun t243 => (if t243 < 0 then (some (-1)) else (some t243))))
theorem laws_heldFigure.mono:∀ a0 a1 a2 a3 a4 k,LeO (laws_heldFigure.f k a0 a1 a2 a3 a4) (laws_heldFigure.f (k + 1) a0 a1 a2 a3 a4):=by
 intro a0 a1 a2 a3 a4 k
 unfold laws_heldFigure.f
 repeat' first | (with_reducible first | exact laws_heldIntS.mono _ _ _ | exact LeO.refl _ | exact LeO.none _ | refine LeO.ite ?_ ?_ | refine LeO.bind ?_ (fun _ => ?_)) | exact laws_heldIntS.mono _ _ _
set_option maxHeartbeats 8000000 in
set_option maxRecDepth 100000 in
theorem laws_heldFigure.calls (k:Nat) (a0_0:Int) (a0_1:Int) (A0_2:Option Addr) (c0_2:Nat) (l0_2:List Int) (A0_3:Option Addr) (c0_3:Nat) (l0_3:List Int) (a1:Int) (r:Int) (w:World) (hr0_2:Kd.C (Kd.int .i64) w A0_2 l0_2.length l0_2) (hc0_2:l0_2.length ≤ c0_2) (hr0_3:Kd.C (Kd.int .i64) w A0_3 l0_3.length l0_3) (hc0_3:l0_3.length ≤ c0_3) (h:laws_heldFigure.f k a0_0 a0_1 l0_2 l0_3 a1 = some r) :
  Calls Tryd.prog 25 #[.agg #[.int .i64 a0_0,.int .i64 a0_1,.slice A0_2 l0_2.length c0_2,.slice A0_3 l0_3.length c0_3],.int .i64 a1] w fun e w' => e = .returned (.int .i64 r) ∧ Below w.heap.size w w':=by
 have hu36:=Tryd.underlying36
 have HR0_2:=am_ hr0_2
 have HC0_2:=am_ hc0_2
 clear hr0_2 hc0_2
 have HR0_3:=am_ hr0_3
 have HC0_3:=am_ hc0_3
 clear hr0_3 hc0_3
 have HB:=am_ (Below.refl w.heap.size w)
 have H:((laws_heldIntS.f k l0_2 a1).bind fun t242 => (if t242 < 0 then (some (-1)) else ((laws_heldIntS.f k l0_3 t242).bind fun t243 => (if t243 < 0 then (some (-1)) else (some t243))))) = some r:=h
 clear h
 replace H:=bi_ H
 obtain ⟨t242,A30,H⟩:=H
 replace H:(if t242 < 0 then (some (-1)) else ((laws_heldIntS.f k l0_3 t242).bind fun t243 => (if t243 < 0 then (some (-1)) else (some t243)))) = some r:=H
 have A3:=am_ A30
 clear A30
 by_cases c4:t242 < 0
 ·rw [if_pos c4] at H
  have c4b0:decide (t242 < 0) = true:=decide_eq_true c4
  clear c4
  obtain rfl:=Option.some.inj H
  go_enter Tryd.func25,Tryd.ntmps25
  go_wp2_with (first | ((with_reducible refine gate_dst (N:=2) rfl ?_); refine boxE_ (N:=2) (cs:=#[.int .i64 a0_0,.int .i64 a0_1,.slice A0_2 l0_2.length c0_2,.slice A0_3 l0_3.length c0_3]) (t:=36) ?_; intro gb241 hg w5 hbox hb; have n0_:=am_ (below_step (bl0_ HB.out) hb); have n1_:=am_ (hbox); have n2_:=am_ ((bs0_ hg HB.out:w.heap.size ≤ gb241)); have n3_:=am_ ((bs0_ hg HB.out:w.heap.size ≤ gb241)); clear HB; have HB:=n0_; have BK241:=n1_; have GW241:=n2_; have GE241:=n3_; clear n0_ n1_ n2_ n3_; clear hb hbox hg; have hcz6_0:w5.cell? ⟨gb241,0,none⟩ = some (.int .i64 a0_0):=(bc_ BK241.out 0).trans rfl; have hcz6_1:w5.cell? ⟨gb241,1,none⟩ = some (.int .i64 a0_1):=(bc_ BK241.out 1).trans rfl; have hcz6_2:w5.cell? ⟨gb241,2,none⟩ = some (.slice A0_2 l0_2.length c0_2):=(bc_ BK241.out 2).trans rfl; have hcz6_3:w5.cell? ⟨gb241,3,none⟩ = some (.slice A0_3 l0_3.length c0_3):=(bc_ BK241.out 3).trans rfl; have hfz6_0:=bz_ BK241.out 0; have hfz6_1:=bz_ BK241.out 1; have hfz6_2:=bz_ BK241.out 2; have hfz6_3:=bz_ BK241.out 3) | ((with_reducible refine gate_callee (f:=60) rfl ?_); refine goesL_ (some 8) rfl rfl Tryd.func60 (by kernel_rfl) rfl #[.slice A0_2 l0_2.length c0_2,.int .i64 a1] rfl ob_ ?_; (with_reducible refine (laws_heldIntS.calls k _ _ l0_2 a1 t242 _ ?side1 ?side2 A3.out).mono ?_); (case side1 => exact kc_ (Kd.C_below HR0_2.out HB.out)); (case side2 => exact HC0_2.out); rintro e w' ⟨rfl,⟨nd,rfl⟩⟩; refine ⟨_,rfl,?_⟩))
  go_ret
  exact ⟨er_,bl1_ HB.out GE241.out⟩
 ·rw [if_neg c4] at H
  have c4b0:decide (t242 < 0) = false:=decide_eq_false c4
  clear c4
  replace H:=bi_ H
  obtain ⟨t243,A70,H⟩:=H
  replace H:(if t243 < 0 then (some (-1)) else (some t243)) = some r:=H
  have A7:=am_ A70
  clear A70
  by_cases c8:t243 < 0
  ·rw [if_pos c8] at H
   have c8b0:decide (t243 < 0) = true:=decide_eq_true c8
   clear c8
   obtain rfl:=Option.some.inj H
   go_enter Tryd.func25,Tryd.ntmps25
   go_wp2_with (first | ((with_reducible refine gate_dst (N:=2) rfl ?_); refine boxE_ (N:=2) (cs:=#[.int .i64 a0_0,.int .i64 a0_1,.slice A0_2 l0_2.length c0_2,.slice A0_3 l0_3.length c0_3]) (t:=36) ?_; intro gb241 hg w9 hbox hb; have n0_:=am_ (below_step (bl0_ HB.out) hb); have n1_:=am_ (hbox); have n2_:=am_ ((bs0_ hg HB.out:w.heap.size ≤ gb241)); have n3_:=am_ ((bs0_ hg HB.out:w.heap.size ≤ gb241)); clear HB; have HB:=n0_; have BK241:=n1_; have GW241:=n2_; have GE241:=n3_; clear n0_ n1_ n2_ n3_; clear hb hbox hg; have hcz10_0:w9.cell? ⟨gb241,0,none⟩ = some (.int .i64 a0_0):=(bc_ BK241.out 0).trans rfl; have hcz10_1:w9.cell? ⟨gb241,1,none⟩ = some (.int .i64 a0_1):=(bc_ BK241.out 1).trans rfl; have hcz10_2:w9.cell? ⟨gb241,2,none⟩ = some (.slice A0_2 l0_2.length c0_2):=(bc_ BK241.out 2).trans rfl; have hcz10_3:w9.cell? ⟨gb241,3,none⟩ = some (.slice A0_3 l0_3.length c0_3):=(bc_ BK241.out 3).trans rfl; have hfz10_0:=bz_ BK241.out 0; have hfz10_1:=bz_ BK241.out 1; have hfz10_2:=bz_ BK241.out 2; have hfz10_3:=bz_ BK241.out 3) | ((with_reducible refine gate_callee (f:=60) rfl ?_); refine goesL_ (some 8) rfl rfl Tryd.func60 (by kernel_rfl) rfl #[.slice A0_2 l0_2.length c0_2,.int .i64 a1] rfl ob_ ?_; (with_reducible refine (laws_heldIntS.calls k _ _ l0_2 a1 t242 _ ?side1 ?side2 A3.out).mono ?_); (case side1 => exact kc_ (Kd.C_below HR0_2.out HB.out)); (case side2 => exact HC0_2.out); rintro e w' ⟨rfl,⟨nd,rfl⟩⟩; refine ⟨_,rfl,?_⟩) | ((with_reducible refine gate_callee (f:=60) rfl ?_); refine goesL_ (some 14) rfl rfl Tryd.func60 (by kernel_rfl) rfl #[.slice A0_3 l0_3.length c0_3,.int .i64 t242] rfl ob_ ?_; (with_reducible refine (laws_heldIntS.calls k _ _ l0_3 t242 t243 _ ?side1 ?side2 A7.out).mono ?_); (case side1 => repeat (first | exact (Kd.C_below HR0_3.out (bl1_ HB.out GE241.out)) | (with_reducible refine Kd.C_alloc ?_ _) | (with_reducible refine Kd.C_drewN ?_ _) | (with_reducible refine Kd.C_drew ?_))); (case side2 => exact HC0_3.out); rintro e w' ⟨rfl,⟨nd,rfl⟩⟩; refine ⟨_,rfl,?_⟩))
   go_ret
   exact ⟨er_,bl1_ HB.out GE241.out⟩
  ·rw [if_neg c8] at H
   have c8b0:decide (t243 < 0) = false:=decide_eq_false c8
   clear c8
   obtain rfl:=Option.some.inj H
   go_enter Tryd.func25,Tryd.ntmps25
   go_wp2_with (first | ((with_reducible refine gate_dst (N:=2) rfl ?_); refine boxE_ (N:=2) (cs:=#[.int .i64 a0_0,.int .i64 a0_1,.slice A0_2 l0_2.length c0_2,.slice A0_3 l0_3.length c0_3]) (t:=36) ?_; intro gb241 hg w11 hbox hb; have n0_:=am_ (below_step (bl0_ HB.out) hb); have n1_:=am_ (hbox); have n2_:=am_ ((bs0_ hg HB.out:w.heap.size ≤ gb241)); have n3_:=am_ ((bs0_ hg HB.out:w.heap.size ≤ gb241)); clear HB; have HB:=n0_; have BK241:=n1_; have GW241:=n2_; have GE241:=n3_; clear n0_ n1_ n2_ n3_; clear hb hbox hg; have hcz12_0:w11.cell? ⟨gb241,0,none⟩ = some (.int .i64 a0_0):=(bc_ BK241.out 0).trans rfl; have hcz12_1:w11.cell? ⟨gb241,1,none⟩ = some (.int .i64 a0_1):=(bc_ BK241.out 1).trans rfl; have hcz12_2:w11.cell? ⟨gb241,2,none⟩ = some (.slice A0_2 l0_2.length c0_2):=(bc_ BK241.out 2).trans rfl; have hcz12_3:w11.cell? ⟨gb241,3,none⟩ = some (.slice A0_3 l0_3.length c0_3):=(bc_ BK241.out 3).trans rfl; have hfz12_0:=bz_ BK241.out 0; have hfz12_1:=bz_ BK241.out 1; have hfz12_2:=bz_ BK241.out 2; have hfz12_3:=bz_ BK241.out 3) | ((with_reducible refine gate_callee (f:=60) rfl ?_); refine goesL_ (some 8) rfl rfl Tryd.func60 (by kernel_rfl) rfl #[.slice A0_2 l0_2.length c0_2,.int .i64 a1] rfl ob_ ?_; (with_reducible refine (laws_heldIntS.calls k _ _ l0_2 a1 t242 _ ?side1 ?side2 A3.out).mono ?_); (case side1 => exact kc_ (Kd.C_below HR0_2.out HB.out)); (case side2 => exact HC0_2.out); rintro e w' ⟨rfl,⟨nd,rfl⟩⟩; refine ⟨_,rfl,?_⟩) | ((with_reducible refine gate_callee (f:=60) rfl ?_); refine goesL_ (some 14) rfl rfl Tryd.func60 (by kernel_rfl) rfl #[.slice A0_3 l0_3.length c0_3,.int .i64 t242] rfl ob_ ?_; (with_reducible refine (laws_heldIntS.calls k _ _ l0_3 t242 t243 _ ?side1 ?side2 A7.out).mono ?_); (case side1 => repeat (first | exact (Kd.C_below HR0_3.out (bl1_ HB.out GE241.out)) | (with_reducible refine Kd.C_alloc ?_ _) | (with_reducible refine Kd.C_drewN ?_ _) | (with_reducible refine Kd.C_drew ?_))); (case side2 => exact HC0_3.out); rintro e w' ⟨rfl,⟨nd,rfl⟩⟩; refine ⟨_,rfl,?_⟩))
   go_ret
   exact ⟨er_,bl1_ HB.out GE241.out⟩


theorem eqFigure_refl (x y:Int) (l m:List Int) (hl:l.length ≤ 4000000) (hm:m.length ≤ 4000000) (k:Nat) (hk:4000000 < k):laws_eqFigure.f k x y l m x y l m = some true:=by
  unfold laws_eqFigure.f
  rw [if_pos rfl,if_pos rfl,eqIntS_refl l hl k (by omega),Option.bind_some,if_pos rfl,eqIntS_refl m hm k (by omega),Option.bind_some,if_pos rfl]
theorem heldFigure_f (x y:Int) (n2 n3:Nat) (hb:n2 + n3 ≤ 1000000) (k:Nat) (hk:4000000 < k):laws_heldFigure.f k x y (marks n2 101) (marks n3 (101 + (n2:Int))) 101 = some (101 + (n2:Int) + (n3:Int)):=by
  unfold laws_heldFigure.f
  rw [heldIntS_f n2 101 (by omega) (by omega) k (by omega),Option.bind_some,if_neg (by omega),heldIntS_f n3 _ (by omega) (by omega) k (by omega),Option.bind_some,if_neg (by omega)]
theorem heldFigure_marks (K:Nat) (x y:Int) (n2 n3:Nat) (mm:Int) (A:Option Addr) (c:Nat) (B:Option Addr) (d base:Nat) (ok ok2:Nat → Prop) (W:World) (hr:Kd.R (Kd.int .i64) 3 W base ok (.slice A n2 c) (marks n2 101)) (hr2:Kd.R (Kd.int .i64) 3 W base ok2 (.slice B n3 d) (marks n3 (101 + (n2:Int)))) (h:laws_heldFigure.f K x y (marks n2 101) (marks n3 (101 + (n2:Int))) 101 = some mm) :
    Calls Tryd.prog 25 #[.agg #[.int .i64 x,.int .i64 y,.slice A n2 c,.slice B n3 d],.int .i64 101] W fun e w' => e = .returned (.int .i64 mm) ∧ Below W.heap.size W w':=by
  have h1:=(Kd.R_reads' hr).2
  have h3:=(Kd.R_reads' hr2).2
  have h2:=laws_heldFigure.calls K x y A c (marks n2 101) B d (marks n3 (101 + (n2:Int))) 101 mm W h1.2 (by rw [marks_len]; exact h1.1) h3.2 (by rw [marks_len]; exact h3.1) h
  rw [marks_len,marks_len] at h2
  exact h2
def AnswersF (G:World → Prop) (f:Nat) (a b:Int) (l m:List Int) (args:Value → Array Value) (r1 r2:Int) (r3 r4:List Int) (r5:Bool):Prop :=
  ∀ (A2:Option Addr) (c2:Nat) (A3:Option Addr) (c3:Nat) (W:World),Kd.C (Kd.int .i64) W A2 l.length l → l.length ≤ c2 → Kd.C (Kd.int .i64) W A3 m.length m → m.length ≤ c3 → G W →
    Calls Tryd.prog f (args (.agg #[.int .i64 a,.int .i64 b,.slice A2 l.length c2,.slice A3 m.length c3])) W fun e w' => ∃ v2_ v3_:Value,e = .returned (.tuple #[.agg #[.int .i64 r1,.int .i64 r2,v2_,v3_],.bool r5]) ∧ Kd.R (Kd.int .i64) 3 w' W.heap.size (fun k_ => some k_ ≠ (v3_:Value).ownBlock) v2_ r3 ∧ Kd.R (Kd.int .i64) 3 w' W.heap.size (fun k_ => some k_ ≠ (v2_:Value).ownBlock) v3_ r4 ∧ Below W.heap.size W w'


set_option maxRecDepth 100000 in
set_option maxHeartbeats 8000000 in
theorem laws_toIntS_full (A0:Option Addr) (c0:Nat) (l0:List Int) (w:World) (hr0:Kd.C (Kd.int .i64) w A0 l0.length l0) (hc0:l0.length ≤ c0) (hbig:l0.length ≤ 1000000) :
    Calls Tryd.prog 35 #[.slice A0 l0.length c0,.bool false] w fun e w' => ∃ (g c:Nat),e = .returned (.slice (some ⟨g,0,none⟩) l0.length c) ∧ Kd.R (Kd.int .i64) 3 w' w.heap.size (fun _ => True) (.slice (some ⟨g,0,none⟩) (fullOf l0).length c) (fullOf l0) ∧ Below w.heap.size w w':=by
  have HR0:=am_ hr0
  clear hr0
  have HB:=am_ (Below.refl w.heap.size w)
  obtain ⟨n,hn⟩:∃ n,n = l0.length:=⟨_,rfl⟩
  have HN:=am_ hn
  rw [← hn] at hbig hc0 ⊢
  have hf:=roomN_f n
  have HF:=am_ hf
  have hm:=roomN_le n
  have hp:=roomN_pos n
  generalize hm':roomN n = m at hm hp HF
  have HM:=am_ hm'
  clear hf hn hm'
  obtain ⟨j,hj⟩:∃ j:Int,j = (n:Int) + (m:Int):=⟨_,rfl⟩
  have hjw:IntKind.i64.wrap ((n:Int) + (m:Int)) = j:=by rw [hj]; exact Go.IntWalk.i64_in _ (by omega)
  have hj0:0 ≤ j:=by omega
  have hj1:j.toNat * 8 ≤ 281474976710656:=by omega
  have hjn:j.toNat = n + m:=by omega
  have HJ:=am_ hj
  have HJN:=am_ hjn
  clear hj hjn
  go_enter Tryd.func35,Tryd.ntmps35
  go_wp2_with (first
    | (go_at_call 79; refine (laws_roomBehind.calls (n:Int) (m:Int) _ HF.out).mono ?_; rintro e w' ⟨rfl,⟨nd,rfl⟩⟩)
    | ((with_reducible refine gate_dst (N:=20) rfl ?_); refine Kd.R_make (Kd.int .i64) _ 3 rfl (N:=20) rfl 22 _ _ rfl j rfl rfl Tryd.underlying22 (.int .i64 0) 8 info3 rfl (by decide) (by omega) 0 (ok:=fun _ => True) (okp:=fun _ => True) rfl (fun _ hk => hk) trivial hj0 hj1 (pw_below_drewN HB.out _) HB.out.size ?_;
       intro v1 w2 ho hb hg_ hnew_; have HO:=am_ ho; have HB2:=am_ hb; clear ho hb hg_ hnew_))
  have hlen:(List.replicate j.toNat (0:Int)).length = n + m:=by rw [List.length_replicate,HJN.out]
  obtain ⟨g,c,eV,-,-,-⟩:=Kd.R_form HO.out (by rw [hlen]; omega)
  rw [hlen] at eV
  subst eV
  clear hlen
  obtain ⟨N,hN⟩:∃ N,N = n + m:=⟨_,rfl⟩
  have HNN:=am_ hN
  rw [← hN] at HO ⊢
  have hNn:n ≤ N:=by omega
  have hNb:N ≤ 2000001:=by omega
  clear hN
  have hX0:Aside0 (List.replicate j.toNat (0:Int) = l0.take 0 ++ List.replicate (N - 0) 0):=⟨by rw [HJN.out,← HNN.out]; exact room_at0 _ _⟩
  generalize List.replicate j.toNat (0:Int) = X0 at HO hX0
  go_loopg [6] n (fun gg u6 wr => ∃ (kk:Nat) (X:List Int),u6 = .int .i64 kk ∧ kk ≤ n ∧ n - kk ≤ gg ∧ Aside0 (X = l0.take kk ++ List.replicate (N - kk) 0) ∧ Aside0 (Kd.R (Kd.int .i64) 3 wr w.heap.size (fun _ => True) (.slice (some ⟨g,0,none⟩) N c) X) ∧ Aside0 (Below w.heap.size w wr))
  case atStart => exact ⟨0,X0,rfl,Nat.zero_le _,by omega,hX0,⟨by exact HO.out⟩,HB2⟩
  case round =>
    clear hX0 HO HB2
    obtain ⟨kk,X,rfl,h1,h2,HX,HO,HB3⟩:=hrel
    by_cases hlt:kk < n
    · have hltz:(kk:Int) < (n:Int):=by omega
      have hk0:(0:Int) ≤ (kk:Int):=by omega
      have hkN:(kk:Int) < (N:Int):=by omega
      obtain ⟨ad,eA,hx⟩:=Kd.at_int (Kd.C_below HR0.out HB3.out) (kk:Int) hk0 (by rw [← HN.out]; exact hltz)
      cases eA
      rw [Int.toNat_natCast] at hx
      obtain ⟨hy,hyf⟩:=Kd.R_celln 0 HO.out (kk:Int) hk0 hkN
      have HP:=Kd.R_putg HO.out (kk:Int) (rd l0 (kk:Int))
      rw [Int.toNat_natCast] at hy hyf HP
      have HPA:=am_ HP
      clear HP
      go_wp2_with (first | ((with_reducible refine gate_store (t:=3) (p:=33) rfl ?_); refine store_event (t:=3) (p:=33) (v:=?vo) (w1:=(wr.setCell ⟨g,kk,none⟩ (.int .i64 (rd l0 (kk:Int))))) ?hg ?ho ?hn ?hr ?_; (case ho => rfl); (case hg => rfl); (case hn => rfl); (case hr => first | (go_simp; done) | (go_simp; rfl)); intro w4 hw; have HO4:Aside0 (Kd.R (Kd.int .i64) 3 w4 w.heap.size (fun _ => True) (.slice (some ⟨g,0,none⟩) N c) (X.set kk (rd l0 (kk:Int)))):=⟨by rw [hw]; exact HPA.out.1⟩; have HB4:Aside0 (Below w.heap.size w w4):=⟨by rw [hw]; exact HB3.out.setCell (p:=⟨g,kk,none⟩) (Kd.R_base HO.out g (by simp [Value.ownBlock])) _⟩; clear hw HPA hy hyf))
      go_roundg (n - (kk + 1))
      case measure => omega
      case rel => exact ⟨kk + 1,_,by go_num,by omega,by omega,⟨by rw [HX.out,HN.out] at *; exact room_step1 l0 N kk (by omega) (by omega)⟩,HO4,HB4⟩
    · have e:kk = n:=by omega
      have HX2:Aside0 (X = l0 ++ List.replicate (kk - l0.length) (-7000000000000000101) ++ List.replicate (N - kk) 0):=⟨by rw [HX.out,e,HN.out]; exact room_mid l0 N⟩
      clear hlt h1 h2 HX
      have hnn:(kk:Int) = (n:Int):=by omega
      subst e
      clear hnn
      go_wp2_with fail
      go_loopg [7] (N - kk) (fun gg u7 wr => ∃ (k2:Nat) (X:List Int),u7 = .int .i64 k2 ∧ kk ≤ k2 ∧ k2 ≤ N ∧ N - k2 ≤ gg ∧ Aside0 (X = l0 ++ List.replicate (k2 - l0.length) (-7000000000000000101) ++ List.replicate (N - k2) 0) ∧ Aside0 (Kd.R (Kd.int .i64) 3 wr w.heap.size (fun _ => True) (.slice (some ⟨g,0,none⟩) N c) X) ∧ Aside0 (Below w.heap.size w wr))
      case atStart => exact ⟨kk,X,rfl,Nat.le_refl _,by omega,by omega,HX2,HO,HB3⟩
      case round =>
        clear HX2 HO HB3
        obtain ⟨k2,X,rfl,h0,h1,h2,HX,HO,HB3⟩:=hrel
        by_cases hlt:k2 < N
        · have hltz:(k2:Int) < (N:Int):=by omega
          have hk0:(0:Int) ≤ (k2:Int):=by omega
          obtain ⟨hy,hyf⟩:=Kd.R_celln 0 HO.out (k2:Int) hk0 hltz
          have HP:=Kd.R_putg HO.out (k2:Int) (-7000000000000000101)
          rw [Int.toNat_natCast] at hy hyf HP
          have HPA:=am_ HP
          clear HP
          have HB4:Aside0 (Below w.heap.size w (wr.setCell ⟨g,k2,none⟩ (.int .i64 (-7000000000000000101)))):=⟨HB3.out.setCell (p:=⟨g,k2,none⟩) (Kd.R_base HO.out g (by simp [Value.ownBlock])) _⟩
          go_wp2_with fail
          go_roundg (N - (k2 + 1))
          case measure => omega
          case rel => exact ⟨k2 + 1,_,by go_num,by omega,by omega,by omega,⟨by rw [HX.out]; exact room_step2 l0 N k2 (by rw [← HN.out]; omega) (by omega)⟩,⟨HPA.out.1⟩,HB4⟩
        · have e:k2 = N:=by omega
          have HXE:Aside0 (X = fullOf l0):=⟨by rw [HX.out,e,HNN.out,← HM.out,HN.out]; exact room_end l0⟩
          have HLE:Aside0 (N = (fullOf l0).length):=⟨by rw [fullOf_length,← HN.out,HM.out,HNN.out]⟩
          have hge:(N:Int) ≤ (k2:Int):=by omega
          have hcap:N ≤ c:=(Kd.R_reads' HO.out).2.1
          have hk0:(0:Int) ≤ (kk:Int):=by omega
          have hkc:(kk:Int) ≤ (c:Int):=by omega
          clear hlt h0 h1 h2 HX hge
          subst e
          go_wp2_with fail
          go_ret
          exact ⟨g,c,rfl,by have h:=HO.out; rw [HXE.out,HLE.out] at h; exact h,HB3.out⟩


set_option maxRecDepth 100000 in
set_option maxHeartbeats 8000000 in
theorem laws_toFigure_full (a0_0:Int) (a0_1:Int) (A0_2:Option Addr) (c0_2:Nat) (l0_2:List Int) (A0_3:Option Addr) (c0_3:Nat) (l0_3:List Int) (w:World) (hr0_2:Kd.C (Kd.int .i64) w A0_2 l0_2.length l0_2) (hc0_2:l0_2.length ≤ c0_2) (hr0_3:Kd.C (Kd.int .i64) w A0_3 l0_3.length l0_3) (hc0_3:l0_3.length ≤ c0_3) (hbig2:l0_2.length ≤ 1000000) (hbig3:l0_3.length ≤ 1000000) :
    Calls Tryd.prog 16 #[.agg #[.int .i64 a0_0,.int .i64 a0_1,.slice A0_2 l0_2.length c0_2,.slice A0_3 l0_3.length c0_3],.bool false] w fun e w' => ∃ (g2 c2 g3 c3:Nat),e = .returned (.agg #[.int .i64 a0_0,.int .i64 a0_1,.slice (some ⟨g2,0,none⟩) l0_2.length c2,.slice (some ⟨g3,0,none⟩) l0_3.length c3]) ∧
      Kd.R (Kd.int .i64) 3 w' w.heap.size (fun _ => True) (.slice (some ⟨g2,0,none⟩) (fullOf l0_2).length c2) (fullOf l0_2) ∧ Kd.R (Kd.int .i64) 3 w' w.heap.size (fun _ => True) (.slice (some ⟨g3,0,none⟩) (fullOf l0_3).length c3) (fullOf l0_3) ∧ g2 ≠ g3 ∧ Below w.heap.size w w':=by
  have hu24:=Tryd.underlying33
  have hu28:=Tryd.underlying36
  have HR2:=am_ hr0_2
  have HR3:=am_ hr0_3
  have HC2:=am_ hc0_2
  have HC3:=am_ hc0_3
  have HG2:=am_ hbig2
  have HG3:=am_ hbig3
  clear hr0_2 hr0_3 hc0_2 hc0_3 hbig2 hbig3
  go_enter Tryd.func16,Tryd.ntmps16
  go_wp2_with (first
    | (go_at_call 35; (with_reducible refine (laws_toIntS_full A0_2 c0_2 l0_2 _ ?s1 HC2.out HG2.out).mono ?_); (case s1 => exact Kd.C_alloc (Kd.C_alloc (Kd.C_alloc HR2.out _) _) _); rintro e w1 ⟨g2,c2,rfl,ho,hb⟩;
       have B0:=am_ (blk_keep (heap3_0 w _ _ _) hb); have B1:=am_ (blk_keep (heap3_1 w _ _ _) hb); have B2:=am_ (blk_keep (heap3_2 w _ _ _) hb); have HB:=am_ ((below_alloc (below_alloc (below_alloc (Below.refl w.heap.size w) _) _) _).trans (hb.mono (by first | (simp; done) | (simp; omega))));
       have G2:=am_ (Kd.R_base ho g2 (by simp [Value.ownBlock])); have HO:=am_ ho; clear hb ho;
       have k1:w1.cell? ⟨w.heap.size + 1 + 1,2,none⟩ = some (.slice none 0 0):=(bc_ B2.out 2).trans rfl; have k2:w1.frozen? ⟨w.heap.size + 1 + 1,2,none⟩ = false:=bz_ B2.out 2; have k3:w1.cell? ⟨w.heap.size,3,none⟩ = some (.slice A0_3 l0_3.length c0_3):=(bc_ B0.out 3).trans rfl)
    | (go_at_call 35; (with_reducible refine (laws_toIntS_full A0_3 c0_3 l0_3 _ ?s2 HC3.out HG3.out).mono ?_); (case s2 => exact Kd.C_below HR3.out (below_set (g:=w.heap.size + 1 + 1) HB.out (by omega))); rintro e w2 ⟨g3,c3,rfl,ho,hb⟩;
       have D0:=am_ (blk_keep (blk_far (p:=⟨w.heap.size + 1 + 1,2,none⟩) B0.out (by simp; omega) _) hb); have D1:=am_ (blk_keep (blk_far (p:=⟨w.heap.size + 1 + 1,2,none⟩) B1.out (by simp) _) hb); have D2:=am_ (blk_keep (blk_set B2.out 2 _) hb); have HB2:=am_ (below_step (below_set (g:=w.heap.size + 1 + 1) (j:=2) (v:=.slice (some ⟨g2,0,none⟩) l0_2.length c2) HB.out (by omega)) hb);
       have P2:=am_ (Kd.R_below (Kd.R_far (p:=⟨w.heap.size + 1 + 1,2,none⟩) (Kd.R_types (Kd.R_types HO.out B1.out (by decide)) B2.out (by decide)) (fun _ hk => hk.2) (.slice (some ⟨g2,0,none⟩) l0_2.length c2)) hb);
       have P3:=am_ (Kd.R_types (Kd.R_types ho D1.out (by decide)) D2.out (by decide)); have HNE:Aside0 (g2 ≠ g3):=⟨fun e => by have a1:=Kd.R_lt HO.out g2 (by simp [Value.ownBlock]); have a2:=Kd.R_base ho g3 (by simp [Value.ownBlock]); simp at a2; omega⟩; have HS1:=am_ HB.out.size; clear hb ho HO HB k1 k2 k3;
       have e0:w2.cell? ⟨w.heap.size + 1 + 1,0,none⟩ = some (.int .i64 a0_0):=(bc_ D2.out 0).trans rfl; have e1:w2.cell? ⟨w.heap.size + 1 + 1,1,none⟩ = some (.int .i64 a0_1):=(bc_ D2.out 1).trans rfl; have e2:w2.cell? ⟨w.heap.size + 1 + 1,2,none⟩ = some (.slice (some ⟨g2,0,none⟩) l0_2.length c2):=(bc_ D2.out 2).trans rfl; have e3:w2.cell? ⟨w.heap.size + 1 + 1,3,none⟩ = some (.slice none 0 0):=(bc_ D2.out 3).trans rfl; have e4:w2.frozen? ⟨w.heap.size + 1 + 1,3,none⟩ = false:=bz_ D2.out 3;
       have f0:w2.cell? ⟨w.heap.size + 1,0,none⟩ = some (.int .i64 0):=(bc_ D1.out 0).trans rfl; have f1:w2.cell? ⟨w.heap.size + 1,1,none⟩ = some (.int .i64 0):=(bc_ D1.out 1).trans rfl; have f2:w2.cell? ⟨w.heap.size + 1,2,none⟩ = some (.slice none 0 0):=(bc_ D1.out 2).trans rfl; have f3:w2.cell? ⟨w.heap.size + 1,3,none⟩ = some (.slice none 0 0):=(bc_ D1.out 3).trans rfl;
       have h0:w2.frozen? ⟨w.heap.size + 1,0,none⟩ = false:=bz_ D1.out 0; have h1:w2.frozen? ⟨w.heap.size + 1,1,none⟩ = false:=bz_ D1.out 1; have h2:w2.frozen? ⟨w.heap.size + 1,2,none⟩ = false:=bz_ D1.out 2; have h3:w2.frozen? ⟨w.heap.size + 1,3,none⟩ = false:=bz_ D1.out 3))
  refine bodyPost_ret (v:=.agg #[.int .i64 a0_0,.int .i64 a0_1,.slice (some ⟨g2,0,none⟩) l0_2.length c2,.slice (some ⟨g3,0,none⟩) l0_3.length c3]) (results_cell_row rfl _ _ (w.heap.size + 1) 36 #[.int .i64 a0_0,.int .i64 a0_1,.slice (some ⟨g2,0,none⟩) l0_2.length c2,.slice (some ⟨g3,0,none⟩) l0_3.length c3] (0,0) _ rfl (by refine blk_put (cs:=#[.int .i64 a0_0,.int .i64 a0_1,.slice (some ⟨g2,0,none⟩) l0_2.length c2,.slice none 0 0]) ?_ 3 _ rfl; refine blk_put (cs:=#[.int .i64 a0_0,.int .i64 a0_1,.slice none 0 0,.slice none 0 0]) ?_ 2 _ rfl; refine blk_put (cs:=#[.int .i64 a0_0,.int .i64 0,.slice none 0 0,.slice none 0 0]) ?_ 1 _ rfl; refine blk_put (cs:=#[.int .i64 0,.int .i64 0,.slice none 0 0,.slice none 0 0]) ?_ 0 _ rfl; refine blk_far ?_ (by simp) _; exact D1.out) Tryd.underlying36 rfl (by kernel_rfl)) rfl ⟨g2,c2,g3,c3,rfl,?_,?_,HNE.out,?_⟩
  · exact Kd.R_mono (Kd.R_lower (Kd.R_far (p:=⟨w.heap.size + 1,3,none⟩) (Kd.R_far (p:=⟨w.heap.size + 1,2,none⟩) (Kd.R_far (p:=⟨w.heap.size + 1,1,none⟩) (Kd.R_far (p:=⟨w.heap.size + 1,0,none⟩) (Kd.R_far (p:=⟨w.heap.size + 1 + 1,3,none⟩) P2.out (fun _ hk => hk.2) _) (fun _ hk => hk.1.2) _) (fun _ hk => hk.1.2) _) (fun _ hk => hk.1.2) _) (fun _ hk => hk.1.2) _) (by simp; omega)) (fun _ _ => trivial)
  · exact Kd.R_mono (Kd.R_lower (Kd.R_far (p:=⟨w.heap.size + 1,3,none⟩) (Kd.R_far (p:=⟨w.heap.size + 1,2,none⟩) (Kd.R_far (p:=⟨w.heap.size + 1,1,none⟩) (Kd.R_far (p:=⟨w.heap.size + 1,0,none⟩) (Kd.R_far (p:=⟨w.heap.size + 1 + 1,3,none⟩) P3.out (fun _ hk => hk.2) _) (fun _ hk => hk.1.2) _) (fun _ hk => hk.1.2) _) (fun _ hk => hk.1.2) _) (fun _ hk => hk.1.2) _) (by simp; exact HS1.out)) (fun _ _ => trivial)
  · exact below_set (g:=w.heap.size + 1) (below_set (g:=w.heap.size + 1) (below_set (g:=w.heap.size + 1) (below_set (g:=w.heap.size + 1) (below_set (g:=w.heap.size + 1 + 1) HB2.out (by omega)) (by omega)) (by omega)) (by omega)) (by omega)


theorem laws_eqIntS_l0_refl (L:List Int) (hL:L.length ≤ 4000000):∀ (d:Nat) (k:Nat) (i:Nat),L.length - i = d → i ≤ L.length → d < k → laws_eqIntS.l0 k L L (i:Int) = some true:=by
  intro d
  induction d with
  | zero =>
    intro k i h1 h2 h3
    obtain ⟨k,rfl⟩:∃ m,k = m + 1:=⟨k - 1,by omega⟩
    simp only [laws_eqIntS.l0]
    rw [if_neg (by omega)]
  | succ d ih =>
    intro k i h1 h2 h3
    obtain ⟨k,rfl⟩:∃ m,k = m + 1:=⟨k - 1,by omega⟩
    simp only [laws_eqIntS.l0]
    rw [if_pos (by omega),if_pos (by omega),if_pos (by omega),if_pos True.intro,show wrap64 ((i:Int) + 1) = ((i + 1:Nat):Int) by unfold wrap64; omega]
    exact ih k (i + 1) (by omega) (by omega) (by omega)
theorem laws_eqIntS_refl (L:List Int) (hL:L.length ≤ 4000000) (k:Nat) (hk:L.length < k):laws_eqIntS.f k L L = some true:=by
  unfold laws_eqIntS.f
  rw [if_pos rfl]
  exact laws_eqIntS_l0_refl L hL L.length k 0 (by omega) (by omega) hk
set_option maxRecDepth 100000 in
set_option maxHeartbeats 8000000 in
theorem laws_intactIntS_full (g0 c0 g1 c1:Nat) (l:List Int) (w:World) (hr0:Kd.C (Kd.int .i64) w (some ⟨g0,0,none⟩) (fullOf l).length (fullOf l)) (hc0:(fullOf l).length ≤ c0) (hr1:Kd.C (Kd.int .i64) w (some ⟨g1,0,none⟩) (fullOf l).length (fullOf l)) (hc1:(fullOf l).length ≤ c1) (hbig:l.length ≤ 1000000) :
    Calls Tryd.prog 43 #[.slice (some ⟨g0,0,none⟩) l.length c0,.slice (some ⟨g1,0,none⟩) l.length c1] w fun e w' => e = .returned (.bool true) ∧ Drawn0 w w':=by
  have HF:=am_ (roomN_f l.length)
  have hm:=roomN_le l.length
  have hL:=fullOf_length l
  have hq:laws_eqIntS.f (l.length + roomN l.length + 1) (fullOf l) (fullOf l) = some true:=laws_eqIntS_refl _ (by omega) _ (by omega)
  have HQ:=am_ hq
  clear hq
  generalize fullOf l = L at hr0 hr1 hc0 hc1 HQ hL
  generalize hn:l.length = n at hbig HF hm HQ hL ⊢
  clear hn
  generalize roomN n = m at HF hm HQ hL
  obtain ⟨N,hN⟩:∃ N,N = n + m:=⟨_,rfl⟩
  have hLN:L.length = N:=by omega
  have HR0:Aside0 (∀ W,Drawn0 w W → Kd.C (Kd.int .i64) W (some ⟨g0,0,none⟩) L.length L):=⟨fun W h => by obtain ⟨⟨q,rfl⟩⟩:=h; exact Kd.C_drewN hr0 q⟩
  have HR1:Aside0 (∀ W,Drawn0 w W → Kd.C (Kd.int .i64) W (some ⟨g1,0,none⟩) L.length L):=⟨fun W h => by obtain ⟨⟨q,rfl⟩⟩:=h; exact Kd.C_drewN hr1 q⟩
  have HCL:=am_ hLN
  rw [hLN] at hc0 hc1
  have hsum:IntKind.i64.wrap ((n:Int) + (m:Int)) = (N:Int):=by rw [hN]; exact (Go.IntWalk.i64_in _ (by omega)).trans (by simp)
  have p0:(0:Int) ≤ (N:Int):=by omega
  have p1:(N:Int) ≤ (c0:Int):=by omega
  have p2:(N:Int) ≤ (c1:Int):=by omega
  have HE:Aside0 (∀ W:World,Drawn0 w W → Calls Tryd.prog 58 #[.slice (some ⟨g0,0,none⟩) N c0,.slice (some ⟨g1,0,none⟩) N c1] W fun e w' => e = .returned (.bool true) ∧ Drawn0 W w'):=⟨fun W hW => by
    have h:=laws_eqIntS.calls (n + m + 1) (some ⟨g0,0,none⟩) c0 L (some ⟨g1,0,none⟩) c1 L true W (HR0.out W hW) (by omega) (HR1.out W hW) (by omega) HQ.out
    rw [HCL.out] at h
    exact h⟩
  clear hr0 hr1 hL hLN hN hm HQ HCL HR0 HR1 hbig
  go_enter Tryd.func43,Tryd.ntmps43
  go_wp2_with (first
    | (go_at_call 79; refine (laws_roomBehind.calls (n:Int) (m:Int) _ HF.out).mono ?_; rintro e w' ⟨rfl,⟨nd,rfl⟩⟩))
  go_quiet ((go_at_call 58; refine (HE.out _ ?d1).mono ?_; (case d1 => repeat (first | exact Drawn0.refl _ | apply Drawn0.step)); rintro e w' ⟨rfl,⟨nd2,rfl⟩⟩; first | exact ⟨rfl,_,World.drewN_drewN _ _ _⟩ | exact ⟨rfl,_,Eq.trans (World.drewN_drewN _ _ _) (congrArg (World.drewN _) (Nat.add_assoc _ _ _))⟩))
  go_wp2
  go_ret
  exact ⟨rfl,by repeat (first | exact Drawn0.refl _ | apply Drawn0.step)⟩


set_option maxRecDepth 100000 in
set_option maxHeartbeats 8000000 in
theorem laws_intactFigure_full (a0 a1:Int) (g2 c2 g3 c3 h2 d2 h3 d3:Nat) (l m:List Int) (w:World) (r2:Kd.C (Kd.int .i64) w (some ⟨g2,0,none⟩) (fullOf l).length (fullOf l)) (b2:(fullOf l).length ≤ c2) (r3:Kd.C (Kd.int .i64) w (some ⟨g3,0,none⟩) (fullOf m).length (fullOf m)) (b3:(fullOf m).length ≤ c3)
    (s2:Kd.C (Kd.int .i64) w (some ⟨h2,0,none⟩) (fullOf l).length (fullOf l)) (e2:(fullOf l).length ≤ d2) (s3:Kd.C (Kd.int .i64) w (some ⟨h3,0,none⟩) (fullOf m).length (fullOf m)) (e3:(fullOf m).length ≤ d3) (hl:l.length ≤ 1000000) (hm:m.length ≤ 1000000) :
    Calls Tryd.prog 18 #[.agg #[.int .i64 a0,.int .i64 a1,.slice (some ⟨g2,0,none⟩) l.length c2,.slice (some ⟨g3,0,none⟩) m.length c3],.agg #[.int .i64 a0,.int .i64 a1,.slice (some ⟨h2,0,none⟩) l.length d2,.slice (some ⟨h3,0,none⟩) m.length d3]] w fun e w' => e = .returned (.bool true) ∧ Below w.heap.size w w':=by
  have hu28:=Tryd.underlying36
  have H2:Aside0 (∀ W,Below w.heap.size w W → Calls Tryd.prog 43 #[.slice (some ⟨g2,0,none⟩) l.length c2,.slice (some ⟨h2,0,none⟩) l.length d2] W fun e w' => e = .returned (.bool true) ∧ Drawn0 W w'):=⟨fun W hW => laws_intactIntS_full g2 c2 h2 d2 l W (Kd.C_below r2 hW) b2 (Kd.C_below s2 hW) e2 hl⟩
  have H3:Aside0 (∀ W,Below w.heap.size w W → Calls Tryd.prog 43 #[.slice (some ⟨g3,0,none⟩) m.length c3,.slice (some ⟨h3,0,none⟩) m.length d3] W fun e w' => e = .returned (.bool true) ∧ Drawn0 W w'):=⟨fun W hW => laws_intactIntS_full g3 c3 h3 d3 m W (Kd.C_below r3 hW) b3 (Kd.C_below s3 hW) e3 hm⟩
  clear r2 r3 s2 s3 b2 b3 e2 e3 hl hm
  generalize l.length = n2 at H2 ⊢
  generalize m.length = n3 at H3 ⊢
  have HB:Aside0 (Below w.heap.size w w):=⟨Below.refl _ _⟩
  go_enter Tryd.func18,Tryd.ntmps18
  go_wp2_with (first
    | (go_at_call 43; (with_reducible refine (H2.out _ ?s1).mono ?_); (case s1 => repeat (first | exact HB.out | apply below_alloc | apply pw_below_drewN | apply below_drew1)); rintro e w' ⟨rfl,⟨nd,rfl⟩⟩)
    | (go_at_call 43; (with_reducible refine (H3.out _ ?s1).mono ?_); (case s1 => repeat (first | exact HB.out | apply below_alloc | apply pw_below_drewN | apply below_drew1)); rintro e w' ⟨rfl,⟨nd,rfl⟩⟩))
  go_ret
  exact ⟨rfl,by repeat (first | exact HB.out | apply below_alloc | apply pw_below_drewN | apply below_drew1)⟩


set_option maxRecDepth 100000 in
set_option maxHeartbeats 8000000 in
theorem law_FirstToTake_no (a0_0:Int) (a0_1:Int) (A0_2:Option Addr) (c0_2:Nat) (l0_2:List Int) (A0_3:Option Addr) (c0_3:Nat) (l0_3:List Int)  (w:World) (hr0_2:Kd.C (Kd.int .i64) w A0_2 l0_2.length l0_2) (hc0_2:l0_2.length ≤ c0_2) (hr0_3:Kd.C (Kd.int .i64) w A0_3 l0_3.length l0_3) (hc0_3:l0_3.length ≤ c0_3) (hl:l0_2.length ≤ 140737488355328) (hm:l0_3.length ≤ 140737488355328) (hbig:¬ l0_2.length + l0_3.length ≤ 1000000) :
    Calls Tryd.prog 8 #[.agg #[.int .i64 a0_0,.int .i64 a0_1,.slice A0_2 l0_2.length c0_2,.slice A0_3 l0_3.length c0_3]] w fun e w' => e = .returned (.bool true) ∧ Below w.heap.size w w':=by
  have hsz:=am_ (szFigure_no a0_0 a0_1 l0_2 l0_3 hl hm hbig)
  have HR2:=am_ hr0_2
  have HR3:=am_ hr0_3
  have HC2:=am_ hc0_2
  have HC3:=am_ hc0_3
  clear hr0_2 hr0_3 hc0_2 hc0_3 hl hm hbig
  go_enter Tryd.func8,Tryd.ntmps8
  go_wp2_with (go_at_call 14; refine (laws_szFigure.calls _ _ _ _ l0_2 _ _ l0_3 _ (-1) _ ?xA HC2.out ?xB HC3.out hsz.out).mono ?_; (case xA => first | exact Kd.C_alloc HR2.out _ | exact Kd.C_alloc (Kd.C_alloc HR2.out _) _ | exact Kd.C_alloc (Kd.C_alloc (Kd.C_alloc HR2.out _) _) _); (case xB => first | exact Kd.C_alloc HR3.out _ | exact Kd.C_alloc (Kd.C_alloc HR3.out _) _ | exact Kd.C_alloc (Kd.C_alloc (Kd.C_alloc HR3.out _) _) _); rintro e w1 ⟨rfl,hb⟩)
  go_ret
  exact ⟨rfl,below_step (by repeat (first | exact Below.refl _ _ | apply below_alloc)) hb⟩

set_option maxRecDepth 100000 in
set_option maxHeartbeats 32000000 in
theorem law_FirstToTake_yes (a0_0:Int) (a0_1:Int) (A0_2:Option Addr) (c0_2:Nat) (l0_2:List Int) (A0_3:Option Addr) (c0_3:Nat) (l0_3:List Int)  (K:Nat) (R0 R1:Int) (L2 L3:List Int) (R2:Bool) (G:World → Prop) (hG:∀ w w',G w → Below w.heap.size w w' → G w') (w:World) (hr0_2:Kd.C (Kd.int .i64) w A0_2 l0_2.length l0_2) (hc0_2:l0_2.length ≤ c0_2) (hr0_3:Kd.C (Kd.int .i64) w A0_3 l0_3.length l0_3) (hc0_3:l0_3.length ≤ c0_3) (hGw:G w) (hbig:l0_2.length + l0_3.length ≤ 1000000) (hRb:L2.length + L3.length ≤ 1000000) (hK:4000000 < K)
    (hspec:AnswersF G 28 a0_0 a0_1 l0_2 l0_3 (fun v => #[v]) R0 R1 L2 L3 R2) (himpl:AnswersF G 29 a0_0 a0_1 l0_2 l0_3 (fun v => #[v]) R0 R1 L2 L3 R2) :
    Calls Tryd.prog 8 #[.agg #[.int .i64 a0_0,.int .i64 a0_1,.slice A0_2 l0_2.length c0_2,.slice A0_3 l0_3.length c0_3]] w fun e w' => e = .returned (.bool true) ∧ Below w.heap.size w w':=by
  have hsz:=am_ (szFigure_ok a0_0 a0_1 l0_2 l0_3 hbig)
  have hT0:=am_ (toFigure_f a0_0 a0_1 l0_2 l0_3 false (by omega) (by omega) K (by omega))
  have hT1:=am_ (toFigure_f a0_0 a0_1 l0_2 l0_3 true (by omega) (by omega) K (by omega))
  have hM:=am_ (markFigure_f a0_0 a0_1 l0_2 l0_3 hbig K (by omega))
  have hE:=am_ (eqFigure_refl R0 R1 L2 L3 (by omega) (by omega) K hK)
  have hMC:=am_ (markFigure_f R0 R1 L2 L3 hRb K (by omega))
  have hHC:=am_ (heldFigure_f R0 R1 L2.length L3.length hRb K hK)
  have HS:Aside0 (∀ (A2:Option Addr) (c2:Nat) (A3:Option Addr) (c3:Nat) (W:World),Kd.C (Kd.int .i64) W A2 l0_2.length l0_2 → l0_2.length ≤ c2 → Kd.C (Kd.int .i64) W A3 l0_3.length l0_3 → l0_3.length ≤ c3 → G W → Calls Tryd.prog 28 #[.agg #[.int .i64 a0_0,.int .i64 a0_1,.slice A2 l0_2.length c2,.slice A3 l0_3.length c3]] W fun e w' => ∃ v2_ v3_:Value,e = .returned (.tuple #[.agg #[.int .i64 R0,.int .i64 R1,v2_,v3_],.bool R2]) ∧ Kd.R (Kd.int .i64) 3 w' W.heap.size (fun k_ => some k_ ≠ (v3_:Value).ownBlock) v2_ L2 ∧ Kd.R (Kd.int .i64) 3 w' W.heap.size (fun k_ => some k_ ≠ (v2_:Value).ownBlock) v3_ L3 ∧ Below W.heap.size W w'):=⟨hspec⟩
  have HI:Aside0 (∀ (A2:Option Addr) (c2:Nat) (A3:Option Addr) (c3:Nat) (W:World),Kd.C (Kd.int .i64) W A2 l0_2.length l0_2 → l0_2.length ≤ c2 → Kd.C (Kd.int .i64) W A3 l0_3.length l0_3 → l0_3.length ≤ c3 → G W → Calls Tryd.prog 29 #[.agg #[.int .i64 a0_0,.int .i64 a0_1,.slice A2 l0_2.length c2,.slice A3 l0_3.length c3]] W fun e w' => ∃ v2_ v3_:Value,e = .returned (.tuple #[.agg #[.int .i64 R0,.int .i64 R1,v2_,v3_],.bool R2]) ∧ Kd.R (Kd.int .i64) 3 w' W.heap.size (fun k_ => some k_ ≠ (v3_:Value).ownBlock) v2_ L2 ∧ Kd.R (Kd.int .i64) 3 w' W.heap.size (fun k_ => some k_ ≠ (v2_:Value).ownBlock) v3_ L3 ∧ Below W.heap.size W w'):=⟨himpl⟩
  have HGT:Aside0 (∀ W,Below w.heap.size w W → G W):=⟨fun W h => hG w W hGw h⟩
  have HL2:Aside0 (l0_2.length ≤ 1000000):=⟨by omega⟩
  have HL3:Aside0 (l0_3.length ≤ 1000000):=⟨by omega⟩
  have hl0:(0:Int) ≤ 1000000 - (l0_2.length:Int) - (l0_3.length:Int):=by omega
  have hl1:1000000 - (l0_2.length:Int) - (l0_3.length:Int) ≤ 1000000:=by omega
  have hk0:(0:Int) ≤ 101 + (l0_2.length:Int) + (l0_3.length:Int):=by omega
  have hm0:(0:Int) ≤ 101 + (L2.length:Int) + (L3.length:Int):=by omega
  generalize hmm:101 + (L2.length:Int) + (L3.length:Int) = mm at hMC hHC hm0
  generalize hmk:101 + (l0_2.length:Int) + (l0_3.length:Int) = mk at hM hk0
  generalize hsl:1000000 - (l0_2.length:Int) - (l0_3.length:Int) = sl at hsz hl0 hl1
  clear hmm hmk hsl
  have HR2:=am_ hr0_2
  have HR3:=am_ hr0_3
  have HC2:=am_ hc0_2
  have HC3:=am_ hc0_3
  clear hr0_2 hr0_3 hc0_2 hc0_3 hbig hRb hK hspec himpl hG hGw
  have tok0:True:=trivial
  go_enter Tryd.func8,Tryd.ntmps8

  go_wp2_with (first
    | (go_at_call 14; have _t:=tok0; (with_reducible refine (laws_szFigure.calls _ _ _ _ l0_2 _ _ l0_3 _ sl _ ?sA HC2.out ?sB HC3.out hsz.out).mono ?_); (case sA => first | exact Kd.C_alloc HR2.out _ | exact Kd.C_alloc (Kd.C_alloc HR2.out _) _ | exact Kd.C_alloc (Kd.C_alloc (Kd.C_alloc HR2.out _) _) _); (case sB => first | exact Kd.C_alloc HR3.out _ | exact Kd.C_alloc (Kd.C_alloc HR3.out _) _ | exact Kd.C_alloc (Kd.C_alloc (Kd.C_alloc HR3.out _) _) _); rintro e w1 ⟨rfl,hb⟩; have Q0:=am_ (blk_keep (o:=.cells #[.int .i64 a0_0,.int .i64 a0_1,.slice A0_2 l0_2.length c0_2,.slice A0_3 l0_3.length c0_3] 33 (0,0)) (g:=w.heap.size) (by first | exact heap_alloc_new w _ | exact blk_alloc (heap_alloc_new w _) _ | exact blk_alloc (blk_alloc (heap_alloc_new w _) _) _) hb);
       have HB:Aside0 (Below w.heap.size w w1):=⟨below_step (by repeat (first | exact Below.refl _ _ | apply below_alloc)) hb⟩;
       have HW:Aside0 (w.heap.size < w1.heap.size):=⟨by have:=hb.size; simp at this; omega⟩;
       clear hb; have q0:w1.cell? ⟨w.heap.size,0,none⟩ = some (.int .i64 a0_0):=(bc_ Q0.out 0).trans rfl; have q1:w1.cell? ⟨w.heap.size,1,none⟩ = some (.int .i64 a0_1):=(bc_ Q0.out 1).trans rfl; have q2:w1.cell? ⟨w.heap.size,2,none⟩ = some (.slice A0_2 l0_2.length c0_2):=(bc_ Q0.out 2).trans rfl; have q3:w1.cell? ⟨w.heap.size,3,none⟩ = some (.slice A0_3 l0_3.length c0_3):=(bc_ Q0.out 3).trans rfl; clear _t tok0; have tok1:True:=trivial)
    | (go_at_call 16; have _t:=tok1; (with_reducible refine (laws_toFigure.calls K a0_0 a0_1 A0_2 c0_2 l0_2 A0_3 c0_3 l0_3 false a0_0 a0_1 l0_2 l0_3 _ (Kd.C_below HR2.out HB.out) HC2.out (Kd.C_below HR3.out HB.out) HC3.out hT0.out).mono ?_); rintro e w2 ⟨u2,u3,rfl,hu2,hu3,hb⟩; have n0_:=am_ (below_step HB.out hb);
       have n1_:=am_ (blk_keep Q0.out hb);
       clear q0 q1 q2 q3 HB Q0;
       have HB:=n0_;
       have Q0:=n1_;
       clear n0_ n1_;
       have q0:w2.cell? ⟨w.heap.size,0,none⟩ = some (.int .i64 a0_0):=(bc_ Q0.out 0).trans rfl;
       have q1:w2.cell? ⟨w.heap.size,1,none⟩ = some (.int .i64 a0_1):=(bc_ Q0.out 1).trans rfl;
       have q2:w2.cell? ⟨w.heap.size,2,none⟩ = some (.slice A0_2 l0_2.length c0_2):=(bc_ Q0.out 2).trans rfl;
       have q3:w2.cell? ⟨w.heap.size,3,none⟩ = some (.slice A0_3 l0_3.length c0_3):=(bc_ Q0.out 3).trans rfl;
       obtain ⟨B2,d2,rfl⟩:=Kd.R_slice hu2;
       obtain ⟨B3,d3,rfl⟩:=Kd.R_slice hu3;
       have U2:=am_ (Kd.R_reads' hu2).2;
       have U3:=am_ (Kd.R_reads' hu3).2;
       clear hb hu2 hu3; clear _t tok1; have tok2:True:=trivial)
    | (go_at_call 28; have _t:=tok2; (with_reducible refine (HS.out B2 d2 B3 d3 _ U2.out.2 U2.out.1 U3.out.2 U3.out.1 (HGT.out _ HB.out)).mono ?_); rintro e w3 ⟨v2,v3,rfl,ho2,ho3,hb⟩; have HB2:=am_ (HB.out.size);
       have HW2:Aside0 (w.heap.size < w3.heap.size):=⟨by have:=hb.size; have:=HB.out.size; have:=(Array.getElem?_eq_some_iff.1 Q0.out).1; omega⟩;
       have n0_:=am_ (below_step HB.out hb);
       have n1_:=am_ (blk_keep Q0.out hb);
       clear q0 q1 q2 q3 HB Q0;
       have HB:=n0_;
       have Q0:=n1_;
       clear n0_ n1_;
       have q0:w3.cell? ⟨w.heap.size,0,none⟩ = some (.int .i64 a0_0):=(bc_ Q0.out 0).trans rfl;
       have q1:w3.cell? ⟨w.heap.size,1,none⟩ = some (.int .i64 a0_1):=(bc_ Q0.out 1).trans rfl;
       have q2:w3.cell? ⟨w.heap.size,2,none⟩ = some (.slice A0_2 l0_2.length c0_2):=(bc_ Q0.out 2).trans rfl;
       have q3:w3.cell? ⟨w.heap.size,3,none⟩ = some (.slice A0_3 l0_3.length c0_3):=(bc_ Q0.out 3).trans rfl;
       have V2:=am_ (Kd.R_lower (Kd.R_mono (Kd.R_bound ho2) (fun k hk => hk.2.2.1):Kd.R (Kd.int .i64) 3 w3 w2.heap.size (fun k => k < w3.heap.size) v2 L2) HB2.out);
       have V3:=am_ (Kd.R_lower (Kd.R_mono (Kd.R_bound ho3) (fun k hk => hk.2.2.1):Kd.R (Kd.int .i64) 3 w3 w2.heap.size (fun k => k < w3.heap.size) v3 L3) HB2.out);
       obtain ⟨E2,f2,rfl⟩:=Kd.R_slice ho2;
       obtain ⟨E3,f3,rfl⟩:=Kd.R_slice ho3;
       have hlt:w.heap.size < w3.heap.size:=HW2.out;
       clear hb ho2 ho3 U2 U3 HB2; clear _t tok2; have tok3:True:=trivial)
    | (go_at_call 16; have _t:=tok3; (with_reducible refine (laws_toFigure_full a0_0 a0_1 A0_2 c0_2 l0_2 A0_3 c0_3 l0_3 _ (Kd.C_below HR2.out (below_alloc HB.out _)) HC2.out (Kd.C_below HR3.out (below_alloc HB.out _)) HC3.out HL2.out HL3.out).mono ?_); rintro e w4 ⟨g2,cc2,g3,cc3,rfl,ho2,ho3,hne,hb⟩; have HG:Aside0 ((w3.heap.size + 1 ≤ g2 ∧ g2 < w4.heap.size) ∧ (w3.heap.size + 1 ≤ g3 ∧ g3 < w4.heap.size) ∧ g2 ≠ g3):=⟨⟨by simpa using Kd.R_base ho2 g2 (by simp [Value.ownBlock]),Kd.R_lt ho2 g2 (by simp [Value.ownBlock])⟩,⟨by simpa using Kd.R_base ho3 g3 (by simp [Value.ownBlock]),Kd.R_lt ho3 g3 (by simp [Value.ownBlock])⟩,hne⟩;
       have HS3:Aside0 (w.heap.size ≤ (w3.heap.size + 1)):=⟨by have:=HW2.out; omega⟩;
       have HWX:Aside0 (w3.heap.size < w4.heap.size):=⟨by have:=hb.size; simp at this; omega⟩;
       have n0_:=am_ (below_step (below_alloc HB.out _) hb);
       have n1_:=am_ (blk_keep (blk_alloc Q0.out _) hb);
       have n2_:=am_ (Kd.R_below (Kd.R_alloc V2.out _) hb);
       have n3_:=am_ (Kd.R_below (Kd.R_alloc V3.out _) hb);
       clear q0 q1 q2 q3 HB Q0 V2 V3;
       have HB:=n0_;
       have Q0:=n1_;
       have V2:=n2_;
       have V3:=n3_;
       clear n0_ n1_ n2_ n3_;
       have W0:Aside0 (w4.heap[w3.heap.size]? = some (.cells #[.int .i64 R0,.int .i64 R1,.slice E2 L2.length f2,.slice E3 L3.length f3] 36 (0,0))):=⟨blk_keep (heap_alloc_new w3 _) hb⟩;
       have q0:w4.cell? ⟨w.heap.size,0,none⟩ = some (.int .i64 a0_0):=(bc_ Q0.out 0).trans rfl;
       have q1:w4.cell? ⟨w.heap.size,1,none⟩ = some (.int .i64 a0_1):=(bc_ Q0.out 1).trans rfl;
       have q2:w4.cell? ⟨w.heap.size,2,none⟩ = some (.slice A0_2 l0_2.length c0_2):=(bc_ Q0.out 2).trans rfl;
       have q3:w4.cell? ⟨w.heap.size,3,none⟩ = some (.slice A0_3 l0_3.length c0_3):=(bc_ Q0.out 3).trans rfl;
       have pp0:w4.cell? ⟨w3.heap.size,0,none⟩ = some (.int .i64 R0):=(bc_ W0.out 0).trans rfl;
       have pp1:w4.cell? ⟨w3.heap.size,1,none⟩ = some (.int .i64 R1):=(bc_ W0.out 1).trans rfl;
       have pp2:w4.cell? ⟨w3.heap.size,2,none⟩ = some (.slice E2 L2.length f2):=(bc_ W0.out 2).trans rfl;
       have pp3:w4.cell? ⟨w3.heap.size,3,none⟩ = some (.slice E3 L3.length f3):=(bc_ W0.out 3).trans rfl;
       have G2:Aside0 (Kd.R (Kd.int .i64) 3 w4 w.heap.size (fun k => k = g2) (.slice (some ⟨g2,0,none⟩) (fullOf l0_2).length cc2) (fullOf l0_2)):=⟨Kd.R_lower (Kd.R_mono (Kd.R_tight rfl ho2) (fun k hk => by simpa [Value.ownBlock] using hk)) (by simpa using HS3.out)⟩;
       have G3:Aside0 (Kd.R (Kd.int .i64) 3 w4 w.heap.size (fun k => k = g3) (.slice (some ⟨g3,0,none⟩) (fullOf l0_3).length cc3) (fullOf l0_3)):=⟨Kd.R_lower (Kd.R_mono (Kd.R_tight rfl ho3) (fun k hk => by simpa [Value.ownBlock] using hk)) (by simpa using HS3.out)⟩;
       have T2:Aside0 (l0_2.length ≤ cc2 ∧ Kd.C (Kd.int .i64) w4 (some ⟨g2,0,none⟩) l0_2.length l0_2):=⟨by have h:=(Kd.R_reads' (Kd.R_take G2.out (m:=l0_2.length) (by rw [fullOf_length]; omega))).2; rw [fullOf_take] at h; exact h⟩;
       have T3:Aside0 (l0_3.length ≤ cc3 ∧ Kd.C (Kd.int .i64) w4 (some ⟨g3,0,none⟩) l0_3.length l0_3):=⟨by have h:=(Kd.R_reads' (Kd.R_take G3.out (m:=l0_3.length) (by rw [fullOf_length]; omega))).2; rw [fullOf_take] at h; exact h⟩;
       clear hlt;
       have hlt:w.heap.size < w4.heap.size:=by have:=HW2.out; have:=HWX.out; omega;
       have hlt2:w3.heap.size < w4.heap.size:=HWX.out;
       clear hb ho2 ho3 hne HS3; clear _t tok3; have tok4:True:=trivial)
    | (go_at_call 29; have _t:=tok4; (with_reducible refine (HI.out _ _ _ _ _ (Kd.C_alloc T2.out.2 _) T2.out.1 (Kd.C_alloc T3.out.2 _) T3.out.1 (HGT.out _ (below_alloc HB.out _))).mono ?_); rintro e w5 ⟨v7,v8,rfl,ho7,ho8,hb⟩; have HS4:Aside0 (w.heap.size ≤ w4.heap.size + 1):=⟨by have:=HB.out.size; omega⟩;
       have HWY:Aside0 (w4.heap.size < w5.heap.size):=⟨by have:=hb.size; simp at this; omega⟩;
       have n0_:=am_ (below_step (below_alloc HB.out _) hb);
       have n1_:=am_ (blk_keep (blk_alloc Q0.out _) hb);
       have n2_:=am_ (Kd.R_below (Kd.R_alloc V2.out _) hb);
       have n3_:=am_ (Kd.R_below (Kd.R_alloc V3.out _) hb);
       have n4_:=am_ (blk_keep (blk_alloc W0.out _) hb);
       have n5_:=am_ (Kd.R_below (Kd.R_alloc G2.out _) hb);
       have n6_:=am_ (Kd.R_below (Kd.R_alloc G3.out _) hb);
       clear q0 q1 q2 q3 pp0 pp1 pp2 pp3 HB Q0 V2 V3 W0 G2 G3;
       have HB:=n0_;
       have Q0:=n1_;
       have V2:=n2_;
       have V3:=n3_;
       have W0:=n4_;
       have G2:=n5_;
       have G3:=n6_;
       clear n0_ n1_ n2_ n3_ n4_ n5_ n6_;
       have X0:Aside0 (w5.heap[w4.heap.size]? = some (.cells #[.int .i64 a0_0,.int .i64 a0_1,.slice (some ⟨g2,0,none⟩) l0_2.length cc2,.slice (some ⟨g3,0,none⟩) l0_3.length cc3] 36 (0,0))):=⟨blk_keep (heap_alloc_new w4 _) hb⟩;
       have q0:w5.cell? ⟨w.heap.size,0,none⟩ = some (.int .i64 a0_0):=(bc_ Q0.out 0).trans rfl;
       have q1:w5.cell? ⟨w.heap.size,1,none⟩ = some (.int .i64 a0_1):=(bc_ Q0.out 1).trans rfl;
       have q2:w5.cell? ⟨w.heap.size,2,none⟩ = some (.slice A0_2 l0_2.length c0_2):=(bc_ Q0.out 2).trans rfl;
       have q3:w5.cell? ⟨w.heap.size,3,none⟩ = some (.slice A0_3 l0_3.length c0_3):=(bc_ Q0.out 3).trans rfl;
       have x0:w5.cell? ⟨w4.heap.size,0,none⟩ = some (.int .i64 a0_0):=(bc_ X0.out 0).trans rfl;
       have x1:w5.cell? ⟨w4.heap.size,1,none⟩ = some (.int .i64 a0_1):=(bc_ X0.out 1).trans rfl;
       have x2:w5.cell? ⟨w4.heap.size,2,none⟩ = some (.slice (some ⟨g2,0,none⟩) l0_2.length cc2):=(bc_ X0.out 2).trans rfl;
       have x3:w5.cell? ⟨w4.heap.size,3,none⟩ = some (.slice (some ⟨g3,0,none⟩) l0_3.length cc3):=(bc_ X0.out 3).trans rfl;
       have pp0:w5.cell? ⟨w3.heap.size,0,none⟩ = some (.int .i64 R0):=(bc_ W0.out 0).trans rfl;
       have pp1:w5.cell? ⟨w3.heap.size,1,none⟩ = some (.int .i64 R1):=(bc_ W0.out 1).trans rfl;
       have pp2:w5.cell? ⟨w3.heap.size,2,none⟩ = some (.slice E2 L2.length f2):=(bc_ W0.out 2).trans rfl;
       have pp3:w5.cell? ⟨w3.heap.size,3,none⟩ = some (.slice E3 L3.length f3):=(bc_ W0.out 3).trans rfl;
       have V7:Aside0 (Kd.R (Kd.int .i64) 3 w5 w.heap.size (fun k => w4.heap.size < k ∧ k < w5.heap.size) v7 L2):=⟨Kd.R_lower (Kd.R_mono (Kd.R_bound ho7) (fun k hk => ⟨by have:=hk.2.1; simp at this; omega,hk.2.2.1⟩)) (by simpa using HS4.out)⟩;
       have V8:Aside0 (Kd.R (Kd.int .i64) 3 w5 w.heap.size (fun k => w4.heap.size < k ∧ k < w5.heap.size) v8 L3):=⟨Kd.R_lower (Kd.R_mono (Kd.R_bound ho8) (fun k hk => ⟨by have:=hk.2.1; simp at this; omega,hk.2.2.1⟩)) (by simpa using HS4.out)⟩;
       have NE:Aside0 (∀ k,some k = (v7:Value).ownBlock → ¬ some k = (v8:Value).ownBlock):=⟨fun k h1 h2 => ho7.1 k h1.symm h2⟩;
       obtain ⟨A7,e7,rfl⟩:=Kd.R_slice ho7;
       obtain ⟨A8,e8,rfl⟩:=Kd.R_slice ho8;
       clear hlt hlt2;
       have hlt:w.heap.size < w5.heap.size:=by have:=HW2.out; have:=HWX.out; have:=HWY.out; omega;
       have hlt2:w3.heap.size < w5.heap.size:=by have:=HWX.out; have:=HWY.out; omega;
       have hlt3:w4.heap.size < w5.heap.size:=HWY.out;
       clear hb ho7 ho8 HS4 T2 T3; clear _t tok4; have tok5:True:=trivial)
    | (go_at_call 23; have _t:=tok5; (with_reducible refine (laws_eqFigure.calls K R0 R1 _ _ L2 _ _ L3 R0 R1 _ _ L2 _ _ L3 true _ (Kd.R_reads' (Kd.R_alloc V7.out _)).2.2 (Kd.R_reads' V7.out).2.1 (Kd.R_reads' (Kd.R_alloc V8.out _)).2.2 (Kd.R_reads' V8.out).2.1 (Kd.R_reads' (Kd.R_alloc V2.out _)).2.2 (Kd.R_reads' V2.out).2.1 (Kd.R_reads' (Kd.R_alloc V3.out _)).2.2 (Kd.R_reads' V3.out).2.1 hE.out).mono ?_); rintro e w6 ⟨rfl,hb⟩; have n0_:=am_ (below_step (below_alloc HB.out _) hb);
       have n1_:=am_ (blk_keep (blk_alloc Q0.out _) hb);
       have n2_:=am_ (Kd.R_below (Kd.R_alloc V2.out _) hb);
       have n3_:=am_ (Kd.R_below (Kd.R_alloc V3.out _) hb);
       have n4_:=am_ (blk_keep (blk_alloc W0.out _) hb);
       have n5_:=am_ (Kd.R_below (Kd.R_alloc G2.out _) hb);
       have n6_:=am_ (Kd.R_below (Kd.R_alloc G3.out _) hb);
       have n7_:=am_ (blk_keep (blk_alloc X0.out _) hb);
       have n8_:=am_ (Kd.R_below (Kd.R_alloc V7.out _) hb);
       have n9_:=am_ (Kd.R_below (Kd.R_alloc V8.out _) hb);
       clear q0 q1 q2 q3 x0 x1 x2 x3 pp0 pp1 pp2 pp3 HB Q0 V2 V3 W0 G2 G3 X0 V7 V8;
       have HB:=n0_;
       have Q0:=n1_;
       have V2:=n2_;
       have V3:=n3_;
       have W0:=n4_;
       have G2:=n5_;
       have G3:=n6_;
       have X0:=n7_;
       have V7:=n8_;
       have V8:=n9_;
       clear n0_ n1_ n2_ n3_ n4_ n5_ n6_ n7_ n8_ n9_;
       have G0:Aside0 (w6.heap[w5.heap.size]? = some (.cells #[.int .i64 R0,.int .i64 R1,.slice A7 L2.length e7,.slice A8 L3.length e8] 36 (0,0))):=⟨blk_keep (heap_alloc_new w5 _) hb⟩;
       have q0:w6.cell? ⟨w.heap.size,0,none⟩ = some (.int .i64 a0_0):=(bc_ Q0.out 0).trans rfl;
       have q1:w6.cell? ⟨w.heap.size,1,none⟩ = some (.int .i64 a0_1):=(bc_ Q0.out 1).trans rfl;
       have q2:w6.cell? ⟨w.heap.size,2,none⟩ = some (.slice A0_2 l0_2.length c0_2):=(bc_ Q0.out 2).trans rfl;
       have q3:w6.cell? ⟨w.heap.size,3,none⟩ = some (.slice A0_3 l0_3.length c0_3):=(bc_ Q0.out 3).trans rfl;
       have x0:w6.cell? ⟨w4.heap.size,0,none⟩ = some (.int .i64 a0_0):=(bc_ X0.out 0).trans rfl;
       have x1:w6.cell? ⟨w4.heap.size,1,none⟩ = some (.int .i64 a0_1):=(bc_ X0.out 1).trans rfl;
       have x2:w6.cell? ⟨w4.heap.size,2,none⟩ = some (.slice (some ⟨g2,0,none⟩) l0_2.length cc2):=(bc_ X0.out 2).trans rfl;
       have x3:w6.cell? ⟨w4.heap.size,3,none⟩ = some (.slice (some ⟨g3,0,none⟩) l0_3.length cc3):=(bc_ X0.out 3).trans rfl;
       have pp0:w6.cell? ⟨w3.heap.size,0,none⟩ = some (.int .i64 R0):=(bc_ W0.out 0).trans rfl;
       have pp1:w6.cell? ⟨w3.heap.size,1,none⟩ = some (.int .i64 R1):=(bc_ W0.out 1).trans rfl;
       have pp2:w6.cell? ⟨w3.heap.size,2,none⟩ = some (.slice E2 L2.length f2):=(bc_ W0.out 2).trans rfl;
       have pp3:w6.cell? ⟨w3.heap.size,3,none⟩ = some (.slice E3 L3.length f3):=(bc_ W0.out 3).trans rfl;
       have gg0:w6.cell? ⟨w5.heap.size,0,none⟩ = some (.int .i64 R0):=(bc_ G0.out 0).trans rfl;
       have gg1:w6.cell? ⟨w5.heap.size,1,none⟩ = some (.int .i64 R1):=(bc_ G0.out 1).trans rfl;
       have gg2:w6.cell? ⟨w5.heap.size,2,none⟩ = some (.slice A7 L2.length e7):=(bc_ G0.out 2).trans rfl;
       have gg3:w6.cell? ⟨w5.heap.size,3,none⟩ = some (.slice A8 L3.length e8):=(bc_ G0.out 3).trans rfl;
       clear hb hlt hlt2 hlt3; clear _t tok5; have tok6:True:=trivial))
  go_region_held3 (fun w' => w'.cell? ⟨w.heap.size,0,none⟩ = some (.int .i64 a0_0) ∧ w'.cell? ⟨w.heap.size,1,none⟩ = some (.int .i64 a0_1) ∧ w'.cell? ⟨w.heap.size,2,none⟩ = some (.slice A0_2 l0_2.length c0_2) ∧ w'.cell? ⟨w.heap.size,3,none⟩ = some (.slice A0_3 l0_3.length c0_3) ∧ w'.cell? ⟨w4.heap.size,0,none⟩ = some (.int .i64 a0_0) ∧ w'.cell? ⟨w4.heap.size,1,none⟩ = some (.int .i64 a0_1) ∧ w'.cell? ⟨w4.heap.size,2,none⟩ = some (.slice (some ⟨g2,0,none⟩) l0_2.length cc2) ∧ w'.cell? ⟨w4.heap.size,3,none⟩ = some (.slice (some ⟨g3,0,none⟩) l0_3.length cc3))
    (first | (exact ⟨q0,q1,q2,q3,x0,x1,x2,x3⟩) | (go_split_ands; exact ⟨pw_cell_below hbB (by assumption),pw_cell_below hbB (by assumption),pw_cell_below hbB (by assumption),pw_cell_below hbB (by assumption),pw_cell_below hbB (by assumption),pw_cell_below hbB (by assumption),pw_cell_below hbB (by assumption),pw_cell_below hbB (by assumption)⟩) | (go_split_ands; exact ⟨pw_cell_below hbA (by assumption),pw_cell_below hbA (by assumption),pw_cell_below hbA (by assumption),pw_cell_below hbA (by assumption),pw_cell_below hbA (by assumption),pw_cell_below hbA (by assumption),pw_cell_below hbA (by assumption),pw_cell_below hbA (by assumption)⟩))
    ((first
      | (go_at_call 16; refine (laws_toFigure_full a0_0 a0_1 A0_2 c0_2 l0_2 A0_3 c0_3 l0_3 _ (Kd.C_below HR2.out (below_drew HB.out)) HC2.out (Kd.C_below HR3.out (below_drew HB.out)) HC3.out HL2.out HL3.out).mono ?_; rintro e wA ⟨y2,yc2,y3,yc3,rfl,hyA,hyB,hyne,hbA⟩)
      | (go_at_call 18; refine (laws_intactFigure_full a0_0 a0_1 g2 cc2 g3 cc3 y2 yc2 y3 yc3 l0_2 l0_3 _ (Kd.R_reads' (Kd.R_below (Kd.R_drew G2.out) hbA)).2.2 (Kd.R_reads' G2.out).2.1 (Kd.R_reads' (Kd.R_below (Kd.R_drew G3.out) hbA)).2.2 (Kd.R_reads' G3.out).2.1 (Kd.R_reads' hyA).2.2 (Kd.R_reads' hyA).2.1 (Kd.R_reads' hyB).2.2 (Kd.R_reads' hyB).2.1 HL2.out HL3.out).mono ?_; rintro e wB ⟨rfl,hbB⟩)))
  have n0_:=am_ (below_step (below_step (below_drew HB.out) hbA) hbB)
  have n1_:=am_ (blk_keep (blk_keep (blk_drew Q0.out) hbA) hbB)
  have n2_:=am_ (Kd.R_below (Kd.R_below (Kd.R_drew V2.out) hbA) hbB)
  have n3_:=am_ (Kd.R_below (Kd.R_below (Kd.R_drew V3.out) hbA) hbB)
  have n4_:=am_ (blk_keep (blk_keep (blk_drew W0.out) hbA) hbB)
  have n5_:=am_ (Kd.R_below (Kd.R_below (Kd.R_drew G2.out) hbA) hbB)
  have n6_:=am_ (Kd.R_below (Kd.R_below (Kd.R_drew G3.out) hbA) hbB)
  have n7_:=am_ (blk_keep (blk_keep (blk_drew X0.out) hbA) hbB)
  have n8_:=am_ (Kd.R_below (Kd.R_below (Kd.R_drew V7.out) hbA) hbB)
  have n9_:=am_ (Kd.R_below (Kd.R_below (Kd.R_drew V8.out) hbA) hbB)
  have n10_:=am_ (blk_keep (blk_keep (blk_drew G0.out) hbA) hbB)
  go_split_ands
  clear q0 q1 q2 q3 x0 x1 x2 x3 pp0 pp1 pp2 pp3 gg0 gg1 gg2 gg3 HB Q0 V2 V3 W0 G2 G3 X0 V7 V8 G0 hyA hyB hyne hbA hbB
  have HB:=n0_
  have Q0:=n1_
  have V2:=n2_
  have V3:=n3_
  have W0:=n4_
  have G2:=n5_
  have G3:=n6_
  have X0:=n7_
  have V7:=n8_
  have V8:=n9_
  have G0:=n10_
  clear n0_ n1_ n2_ n3_ n4_ n5_ n6_ n7_ n8_ n9_ n10_
  have q0:wB.cell? ⟨w.heap.size,0,none⟩ = some (.int .i64 a0_0):=(bc_ Q0.out 0).trans rfl
  have q1:wB.cell? ⟨w.heap.size,1,none⟩ = some (.int .i64 a0_1):=(bc_ Q0.out 1).trans rfl
  have q2:wB.cell? ⟨w.heap.size,2,none⟩ = some (.slice A0_2 l0_2.length c0_2):=(bc_ Q0.out 2).trans rfl
  have q3:wB.cell? ⟨w.heap.size,3,none⟩ = some (.slice A0_3 l0_3.length c0_3):=(bc_ Q0.out 3).trans rfl
  have x0:wB.cell? ⟨w4.heap.size,0,none⟩ = some (.int .i64 a0_0):=(bc_ X0.out 0).trans rfl
  have x1:wB.cell? ⟨w4.heap.size,1,none⟩ = some (.int .i64 a0_1):=(bc_ X0.out 1).trans rfl
  have x2:wB.cell? ⟨w4.heap.size,2,none⟩ = some (.slice (some ⟨g2,0,none⟩) l0_2.length cc2):=(bc_ X0.out 2).trans rfl
  have x3:wB.cell? ⟨w4.heap.size,3,none⟩ = some (.slice (some ⟨g3,0,none⟩) l0_3.length cc3):=(bc_ X0.out 3).trans rfl
  have pp0:wB.cell? ⟨w3.heap.size,0,none⟩ = some (.int .i64 R0):=(bc_ W0.out 0).trans rfl
  have pp1:wB.cell? ⟨w3.heap.size,1,none⟩ = some (.int .i64 R1):=(bc_ W0.out 1).trans rfl
  have pp2:wB.cell? ⟨w3.heap.size,2,none⟩ = some (.slice E2 L2.length f2):=(bc_ W0.out 2).trans rfl
  have pp3:wB.cell? ⟨w3.heap.size,3,none⟩ = some (.slice E3 L3.length f3):=(bc_ W0.out 3).trans rfl
  have gg0:wB.cell? ⟨w5.heap.size,0,none⟩ = some (.int .i64 R0):=(bc_ G0.out 0).trans rfl
  have gg1:wB.cell? ⟨w5.heap.size,1,none⟩ = some (.int .i64 R1):=(bc_ G0.out 1).trans rfl
  have gg2:wB.cell? ⟨w5.heap.size,2,none⟩ = some (.slice A7 L2.length e7):=(bc_ G0.out 2).trans rfl
  have gg3:wB.cell? ⟨w5.heap.size,3,none⟩ = some (.slice A8 L3.length e8):=(bc_ G0.out 3).trans rfl
  have P23:Aside0 (∀ k:Nat,k = g2 → ¬ k = g3):=⟨fun k h1 h2 => HG.out.2.2 (h1.symm.trans h2)⟩
  have P32:Aside0 (∀ k:Nat,k = g3 → ¬ k = g2):=⟨fun k h1 h2 => HG.out.2.2 (h2.symm.trans h1)⟩
  have T2:Aside0 (Kd.R (Kd.int .i64) 3 wB w.heap.size (fun k => k = g2) (.slice (some ⟨g2,0,none⟩) l0_2.length cc2) l0_2):=⟨by have h:=Kd.R_take G2.out (m:=l0_2.length) (by rw [fullOf_length]; omega); rw [fullOf_take] at h; exact h⟩
  have T3:Aside0 (Kd.R (Kd.int .i64) 3 wB w.heap.size (fun k => k = g3) (.slice (some ⟨g3,0,none⟩) l0_3.length cc3) l0_3):=⟨by have h:=Kd.R_take G3.out (m:=l0_3.length) (by rw [fullOf_length]; omega); rw [fullOf_take] at h; exact h⟩
  have NE2:Aside0 (∀ k:Nat,some k = (Value.slice A8 L3.length e8).ownBlock → ¬ some k = (Value.slice A7 L2.length e7).ownBlock):=⟨fun k h1 h2 => NE.out k h2 h1⟩
  go_wp2_with (first
    | (go_at_call 24; have _t:=tok6; (with_reducible refine (laws_markFigure.calls K a0_0 a0_1 (fun k => k = g2) _ l0_2 (fun k => k = g3) _ l0_3 101 mk (marks l0_2.length 101) (marks l0_3.length (101 + (l0_2.length:Int))) w _ HB.out T2.out P23.out T3.out P32.out hM.out).mono ?_); rintro e w8 ⟨rfl,hm2,hm3,hbw,hk⟩; have n0_:=am_ (hbw);
       have n1_:=am_ (blk_kept2 Q0.out hk (fun h => by have:=HG.out; have:=HW2.out; have:=HWX.out; have:=HWY.out; omega));
       have n2_:=am_ (Kd.R_kept V2.out hk (fun k hk_ h => by have:=HG.out; have:=HW2.out; have:=HWX.out; have:=HWY.out; omega));
       have n3_:=am_ (Kd.R_kept V3.out hk (fun k hk_ h => by have:=HG.out; have:=HW2.out; have:=HWX.out; have:=HWY.out; omega));
       have n4_:=am_ (blk_kept2 W0.out hk (fun h => by have:=HG.out; have:=HW2.out; have:=HWX.out; have:=HWY.out; omega));
       have n5_:=am_ (blk_kept2 X0.out hk (fun h => by have:=HG.out; have:=HW2.out; have:=HWX.out; have:=HWY.out; omega));
       have n6_:=am_ (Kd.R_kept V7.out hk (fun k hk_ h => by have:=HG.out; have:=HW2.out; have:=HWX.out; have:=HWY.out; omega));
       have n7_:=am_ (Kd.R_kept V8.out hk (fun k hk_ h => by have:=HG.out; have:=HW2.out; have:=HWX.out; have:=HWY.out; omega));
       have n8_:=am_ (blk_kept2 G0.out hk (fun h => by have:=HG.out; have:=HW2.out; have:=HWX.out; have:=HWY.out; omega));
       clear q0 q1 q2 q3 x0 x1 x2 x3 pp0 pp1 pp2 pp3 gg0 gg1 gg2 gg3 HB Q0 V2 V3 W0 X0 V7 V8 G0;
       have HB:=n0_;
       have Q0:=n1_;
       have V2:=n2_;
       have V3:=n3_;
       have W0:=n4_;
       have X0:=n5_;
       have V7:=n6_;
       have V8:=n7_;
       have G0:=n8_;
       clear n0_ n1_ n2_ n3_ n4_ n5_ n6_ n7_ n8_;
       have q0:w8.cell? ⟨w.heap.size,0,none⟩ = some (.int .i64 a0_0):=(bc_ Q0.out 0).trans rfl;
       have q1:w8.cell? ⟨w.heap.size,1,none⟩ = some (.int .i64 a0_1):=(bc_ Q0.out 1).trans rfl;
       have q2:w8.cell? ⟨w.heap.size,2,none⟩ = some (.slice A0_2 l0_2.length c0_2):=(bc_ Q0.out 2).trans rfl;
       have q3:w8.cell? ⟨w.heap.size,3,none⟩ = some (.slice A0_3 l0_3.length c0_3):=(bc_ Q0.out 3).trans rfl;
       have x0:w8.cell? ⟨w4.heap.size,0,none⟩ = some (.int .i64 a0_0):=(bc_ X0.out 0).trans rfl;
       have x1:w8.cell? ⟨w4.heap.size,1,none⟩ = some (.int .i64 a0_1):=(bc_ X0.out 1).trans rfl;
       have x2:w8.cell? ⟨w4.heap.size,2,none⟩ = some (.slice (some ⟨g2,0,none⟩) l0_2.length cc2):=(bc_ X0.out 2).trans rfl;
       have x3:w8.cell? ⟨w4.heap.size,3,none⟩ = some (.slice (some ⟨g3,0,none⟩) l0_3.length cc3):=(bc_ X0.out 3).trans rfl;
       have pp0:w8.cell? ⟨w3.heap.size,0,none⟩ = some (.int .i64 R0):=(bc_ W0.out 0).trans rfl;
       have pp1:w8.cell? ⟨w3.heap.size,1,none⟩ = some (.int .i64 R1):=(bc_ W0.out 1).trans rfl;
       have pp2:w8.cell? ⟨w3.heap.size,2,none⟩ = some (.slice E2 L2.length f2):=(bc_ W0.out 2).trans rfl;
       have pp3:w8.cell? ⟨w3.heap.size,3,none⟩ = some (.slice E3 L3.length f3):=(bc_ W0.out 3).trans rfl;
       have gg0:w8.cell? ⟨w5.heap.size,0,none⟩ = some (.int .i64 R0):=(bc_ G0.out 0).trans rfl;
       have gg1:w8.cell? ⟨w5.heap.size,1,none⟩ = some (.int .i64 R1):=(bc_ G0.out 1).trans rfl;
       have gg2:w8.cell? ⟨w5.heap.size,2,none⟩ = some (.slice A7 L2.length e7):=(bc_ G0.out 2).trans rfl;
       have gg3:w8.cell? ⟨w5.heap.size,3,none⟩ = some (.slice A8 L3.length e8):=(bc_ G0.out 3).trans rfl;
       clear hm2 hm3 hbw hk T2 T3 G2 G3; clear _t tok6; have tok7:True:=trivial)
    | (go_at_call 23; have _t:=tok7; (with_reducible refine (laws_eqFigure.calls K R0 R1 _ _ L2 _ _ L3 R0 R1 _ _ L2 _ _ L3 true _ (Kd.R_reads' V7.out).2.2 (Kd.R_reads' V7.out).2.1 (Kd.R_reads' V8.out).2.2 (Kd.R_reads' V8.out).2.1 (Kd.R_reads' V2.out).2.2 (Kd.R_reads' V2.out).2.1 (Kd.R_reads' V3.out).2.2 (Kd.R_reads' V3.out).2.1 hE.out).mono ?_); rintro e w9 ⟨rfl,hb⟩; have n0_:=am_ (below_step HB.out hb);
       have n1_:=am_ (blk_keep Q0.out hb);
       have n2_:=am_ (Kd.R_below V2.out hb);
       have n3_:=am_ (Kd.R_below V3.out hb);
       have n4_:=am_ (blk_keep W0.out hb);
       have n5_:=am_ (blk_keep X0.out hb);
       have n6_:=am_ (Kd.R_below V7.out hb);
       have n7_:=am_ (Kd.R_below V8.out hb);
       have n8_:=am_ (blk_keep G0.out hb);
       clear q0 q1 q2 q3 x0 x1 x2 x3 pp0 pp1 pp2 pp3 gg0 gg1 gg2 gg3 HB Q0 V2 V3 W0 X0 V7 V8 G0;
       have HB:=n0_;
       have Q0:=n1_;
       have V2:=n2_;
       have V3:=n3_;
       have W0:=n4_;
       have X0:=n5_;
       have V7:=n6_;
       have V8:=n7_;
       have G0:=n8_;
       clear n0_ n1_ n2_ n3_ n4_ n5_ n6_ n7_ n8_;
       have q0:w9.cell? ⟨w.heap.size,0,none⟩ = some (.int .i64 a0_0):=(bc_ Q0.out 0).trans rfl;
       have q1:w9.cell? ⟨w.heap.size,1,none⟩ = some (.int .i64 a0_1):=(bc_ Q0.out 1).trans rfl;
       have q2:w9.cell? ⟨w.heap.size,2,none⟩ = some (.slice A0_2 l0_2.length c0_2):=(bc_ Q0.out 2).trans rfl;
       have q3:w9.cell? ⟨w.heap.size,3,none⟩ = some (.slice A0_3 l0_3.length c0_3):=(bc_ Q0.out 3).trans rfl;
       have x0:w9.cell? ⟨w4.heap.size,0,none⟩ = some (.int .i64 a0_0):=(bc_ X0.out 0).trans rfl;
       have x1:w9.cell? ⟨w4.heap.size,1,none⟩ = some (.int .i64 a0_1):=(bc_ X0.out 1).trans rfl;
       have x2:w9.cell? ⟨w4.heap.size,2,none⟩ = some (.slice (some ⟨g2,0,none⟩) l0_2.length cc2):=(bc_ X0.out 2).trans rfl;
       have x3:w9.cell? ⟨w4.heap.size,3,none⟩ = some (.slice (some ⟨g3,0,none⟩) l0_3.length cc3):=(bc_ X0.out 3).trans rfl;
       have pp0:w9.cell? ⟨w3.heap.size,0,none⟩ = some (.int .i64 R0):=(bc_ W0.out 0).trans rfl;
       have pp1:w9.cell? ⟨w3.heap.size,1,none⟩ = some (.int .i64 R1):=(bc_ W0.out 1).trans rfl;
       have pp2:w9.cell? ⟨w3.heap.size,2,none⟩ = some (.slice E2 L2.length f2):=(bc_ W0.out 2).trans rfl;
       have pp3:w9.cell? ⟨w3.heap.size,3,none⟩ = some (.slice E3 L3.length f3):=(bc_ W0.out 3).trans rfl;
       have gg0:w9.cell? ⟨w5.heap.size,0,none⟩ = some (.int .i64 R0):=(bc_ G0.out 0).trans rfl;
       have gg1:w9.cell? ⟨w5.heap.size,1,none⟩ = some (.int .i64 R1):=(bc_ G0.out 1).trans rfl;
       have gg2:w9.cell? ⟨w5.heap.size,2,none⟩ = some (.slice A7 L2.length e7):=(bc_ G0.out 2).trans rfl;
       have gg3:w9.cell? ⟨w5.heap.size,3,none⟩ = some (.slice A8 L3.length e8):=(bc_ G0.out 3).trans rfl;
       have TV7:=am_ (Kd.R_tight rfl V7.out);
       have TV8:=am_ (Kd.R_tight rfl V8.out);
       have HN7:Aside0 (∀ k,(some k = (Value.slice A7 L2.length e7).ownBlock ∨ some k = (Value.slice A8 L3.length e8).ownBlock) → w4.heap.size < k ∧ k < w5.heap.size):=⟨fun k hk => hk.elim (fun h => V7.out.1 k h.symm) (fun h => V8.out.1 k h.symm)⟩;
       clear hb; clear _t tok7; have tok8:True:=trivial)
    | (go_at_call 24; have _t:=tok8; (with_reducible refine (laws_markFigure.calls K R0 R1 (fun k => some k = (Value.slice A7 L2.length e7).ownBlock) _ L2 (fun k => some k = (Value.slice A8 L3.length e8).ownBlock) _ L3 101 mm (marks L2.length 101) (marks L3.length (101 + (L2.length:Int))) w _ HB.out TV7.out NE.out TV8.out NE2.out hMC.out).mono ?_); rintro e w10 ⟨rfl,hm2,hm3,hbw,hk⟩; have n0_:=am_ (hbw);
       have n1_:=am_ (blk_kept2 Q0.out hk (fun h => by have:=HN7.out _ h; have:=HG.out; have:=HW2.out; have:=HWX.out; have:=HWY.out; omega));
       have n2_:=am_ (Kd.R_kept V2.out hk (fun k hk_ h => by have:=HN7.out _ h; have:=HG.out; have:=HW2.out; have:=HWX.out; have:=HWY.out; omega));
       have n3_:=am_ (Kd.R_kept V3.out hk (fun k hk_ h => by have:=HN7.out _ h; have:=HG.out; have:=HW2.out; have:=HWX.out; have:=HWY.out; omega));
       have n4_:=am_ (blk_kept2 W0.out hk (fun h => by have:=HN7.out _ h; have:=HG.out; have:=HW2.out; have:=HWX.out; have:=HWY.out; omega));
       have n5_:=am_ (blk_kept2 X0.out hk (fun h => by have:=HN7.out _ h; have:=HG.out; have:=HW2.out; have:=HWX.out; have:=HWY.out; omega));
       have n6_:=am_ (blk_kept2 G0.out hk (fun h => by have:=HN7.out _ h; have:=HG.out; have:=HW2.out; have:=HWX.out; have:=HWY.out; omega));
       clear q0 q1 q2 q3 x0 x1 x2 x3 pp0 pp1 pp2 pp3 gg0 gg1 gg2 gg3 HB Q0 V2 V3 W0 X0 G0;
       have HB:=n0_;
       have Q0:=n1_;
       have V2:=n2_;
       have V3:=n3_;
       have W0:=n4_;
       have X0:=n5_;
       have G0:=n6_;
       clear n0_ n1_ n2_ n3_ n4_ n5_ n6_;
       have V7n:=am_ hm2;
       have V8n:=am_ hm3;
       clear V7 V8;
       have V7:=V7n;
       have V8:=V8n;
       clear V7n V8n;
       have q0:w10.cell? ⟨w.heap.size,0,none⟩ = some (.int .i64 a0_0):=(bc_ Q0.out 0).trans rfl;
       have q1:w10.cell? ⟨w.heap.size,1,none⟩ = some (.int .i64 a0_1):=(bc_ Q0.out 1).trans rfl;
       have q2:w10.cell? ⟨w.heap.size,2,none⟩ = some (.slice A0_2 l0_2.length c0_2):=(bc_ Q0.out 2).trans rfl;
       have q3:w10.cell? ⟨w.heap.size,3,none⟩ = some (.slice A0_3 l0_3.length c0_3):=(bc_ Q0.out 3).trans rfl;
       have x0:w10.cell? ⟨w4.heap.size,0,none⟩ = some (.int .i64 a0_0):=(bc_ X0.out 0).trans rfl;
       have x1:w10.cell? ⟨w4.heap.size,1,none⟩ = some (.int .i64 a0_1):=(bc_ X0.out 1).trans rfl;
       have x2:w10.cell? ⟨w4.heap.size,2,none⟩ = some (.slice (some ⟨g2,0,none⟩) l0_2.length cc2):=(bc_ X0.out 2).trans rfl;
       have x3:w10.cell? ⟨w4.heap.size,3,none⟩ = some (.slice (some ⟨g3,0,none⟩) l0_3.length cc3):=(bc_ X0.out 3).trans rfl;
       have pp0:w10.cell? ⟨w3.heap.size,0,none⟩ = some (.int .i64 R0):=(bc_ W0.out 0).trans rfl;
       have pp1:w10.cell? ⟨w3.heap.size,1,none⟩ = some (.int .i64 R1):=(bc_ W0.out 1).trans rfl;
       have pp2:w10.cell? ⟨w3.heap.size,2,none⟩ = some (.slice E2 L2.length f2):=(bc_ W0.out 2).trans rfl;
       have pp3:w10.cell? ⟨w3.heap.size,3,none⟩ = some (.slice E3 L3.length f3):=(bc_ W0.out 3).trans rfl;
       have gg0:w10.cell? ⟨w5.heap.size,0,none⟩ = some (.int .i64 R0):=(bc_ G0.out 0).trans rfl;
       have gg1:w10.cell? ⟨w5.heap.size,1,none⟩ = some (.int .i64 R1):=(bc_ G0.out 1).trans rfl;
       have gg2:w10.cell? ⟨w5.heap.size,2,none⟩ = some (.slice A7 L2.length e7):=(bc_ G0.out 2).trans rfl;
       have gg3:w10.cell? ⟨w5.heap.size,3,none⟩ = some (.slice A8 L3.length e8):=(bc_ G0.out 3).trans rfl;
       clear hm2 hm3 hbw hk TV7 TV8 HN7; clear _t tok8; have tok9:True:=trivial)
    | (go_at_call 25; have _t:=tok9; (with_reducible refine (heldFigure_marks K R0 R1 L2.length L3.length mm A7 e7 A8 e8 _ _ _ _ V7.out V8.out hHC.out).mono ?_); rintro e w11 ⟨rfl,hb⟩; have n0_:=am_ (below_step HB.out hb);
       have n1_:=am_ (blk_keep Q0.out hb);
       have n2_:=am_ (Kd.R_below V2.out hb);
       have n3_:=am_ (Kd.R_below V3.out hb);
       have n4_:=am_ (blk_keep W0.out hb);
       have n5_:=am_ (blk_keep X0.out hb);
       have n6_:=am_ (blk_keep G0.out hb);
       have n7_:=am_ (Kd.R_below V7.out hb);
       have n8_:=am_ (Kd.R_below V8.out hb);
       clear q0 q1 q2 q3 x0 x1 x2 x3 pp0 pp1 pp2 pp3 gg0 gg1 gg2 gg3 HB Q0 V2 V3 W0 X0 G0 V7 V8;
       have HB:=n0_;
       have Q0:=n1_;
       have V2:=n2_;
       have V3:=n3_;
       have W0:=n4_;
       have X0:=n5_;
       have G0:=n6_;
       have V7:=n7_;
       have V8:=n8_;
       clear n0_ n1_ n2_ n3_ n4_ n5_ n6_ n7_ n8_;
       have q0:w11.cell? ⟨w.heap.size,0,none⟩ = some (.int .i64 a0_0):=(bc_ Q0.out 0).trans rfl;
       have q1:w11.cell? ⟨w.heap.size,1,none⟩ = some (.int .i64 a0_1):=(bc_ Q0.out 1).trans rfl;
       have q2:w11.cell? ⟨w.heap.size,2,none⟩ = some (.slice A0_2 l0_2.length c0_2):=(bc_ Q0.out 2).trans rfl;
       have q3:w11.cell? ⟨w.heap.size,3,none⟩ = some (.slice A0_3 l0_3.length c0_3):=(bc_ Q0.out 3).trans rfl;
       have x0:w11.cell? ⟨w4.heap.size,0,none⟩ = some (.int .i64 a0_0):=(bc_ X0.out 0).trans rfl;
       have x1:w11.cell? ⟨w4.heap.size,1,none⟩ = some (.int .i64 a0_1):=(bc_ X0.out 1).trans rfl;
       have x2:w11.cell? ⟨w4.heap.size,2,none⟩ = some (.slice (some ⟨g2,0,none⟩) l0_2.length cc2):=(bc_ X0.out 2).trans rfl;
       have x3:w11.cell? ⟨w4.heap.size,3,none⟩ = some (.slice (some ⟨g3,0,none⟩) l0_3.length cc3):=(bc_ X0.out 3).trans rfl;
       have pp0:w11.cell? ⟨w3.heap.size,0,none⟩ = some (.int .i64 R0):=(bc_ W0.out 0).trans rfl;
       have pp1:w11.cell? ⟨w3.heap.size,1,none⟩ = some (.int .i64 R1):=(bc_ W0.out 1).trans rfl;
       have pp2:w11.cell? ⟨w3.heap.size,2,none⟩ = some (.slice E2 L2.length f2):=(bc_ W0.out 2).trans rfl;
       have pp3:w11.cell? ⟨w3.heap.size,3,none⟩ = some (.slice E3 L3.length f3):=(bc_ W0.out 3).trans rfl;
       have gg0:w11.cell? ⟨w5.heap.size,0,none⟩ = some (.int .i64 R0):=(bc_ G0.out 0).trans rfl;
       have gg1:w11.cell? ⟨w5.heap.size,1,none⟩ = some (.int .i64 R1):=(bc_ G0.out 1).trans rfl;
       have gg2:w11.cell? ⟨w5.heap.size,2,none⟩ = some (.slice A7 L2.length e7):=(bc_ G0.out 2).trans rfl;
       have gg3:w11.cell? ⟨w5.heap.size,3,none⟩ = some (.slice A8 L3.length e8):=(bc_ G0.out 3).trans rfl;
       clear hb; clear _t tok9; have tok10:True:=trivial)
    | (go_at_call 16; have _t:=tok10; (with_reducible refine (laws_toFigure.calls K a0_0 a0_1 A0_2 c0_2 l0_2 A0_3 c0_3 l0_3 true a0_0 a0_1 l0_2 l0_3 _ (Kd.C_below HR2.out HB.out) HC2.out (Kd.C_below HR3.out HB.out) HC3.out hT1.out).mono ?_); rintro e w12 ⟨u2,u3,rfl,hu2,hu3,hb⟩; have n0_:=am_ (below_step HB.out hb);
       have n1_:=am_ (blk_keep Q0.out hb);
       have n2_:=am_ (Kd.R_below V2.out hb);
       have n3_:=am_ (Kd.R_below V3.out hb);
       have n4_:=am_ (blk_keep W0.out hb);
       have n5_:=am_ (blk_keep X0.out hb);
       have n6_:=am_ (blk_keep G0.out hb);
       have n7_:=am_ (Kd.R_below V7.out hb);
       have n8_:=am_ (Kd.R_below V8.out hb);
       clear q0 q1 q2 q3 x0 x1 x2 x3 pp0 pp1 pp2 pp3 gg0 gg1 gg2 gg3 HB Q0 V2 V3 W0 X0 G0 V7 V8;
       have HB:=n0_;
       have Q0:=n1_;
       have V2:=n2_;
       have V3:=n3_;
       have W0:=n4_;
       have X0:=n5_;
       have G0:=n6_;
       have V7:=n7_;
       have V8:=n8_;
       clear n0_ n1_ n2_ n3_ n4_ n5_ n6_ n7_ n8_;
       have q0:w12.cell? ⟨w.heap.size,0,none⟩ = some (.int .i64 a0_0):=(bc_ Q0.out 0).trans rfl;
       have q1:w12.cell? ⟨w.heap.size,1,none⟩ = some (.int .i64 a0_1):=(bc_ Q0.out 1).trans rfl;
       have q2:w12.cell? ⟨w.heap.size,2,none⟩ = some (.slice A0_2 l0_2.length c0_2):=(bc_ Q0.out 2).trans rfl;
       have q3:w12.cell? ⟨w.heap.size,3,none⟩ = some (.slice A0_3 l0_3.length c0_3):=(bc_ Q0.out 3).trans rfl;
       have x0:w12.cell? ⟨w4.heap.size,0,none⟩ = some (.int .i64 a0_0):=(bc_ X0.out 0).trans rfl;
       have x1:w12.cell? ⟨w4.heap.size,1,none⟩ = some (.int .i64 a0_1):=(bc_ X0.out 1).trans rfl;
       have x2:w12.cell? ⟨w4.heap.size,2,none⟩ = some (.slice (some ⟨g2,0,none⟩) l0_2.length cc2):=(bc_ X0.out 2).trans rfl;
       have x3:w12.cell? ⟨w4.heap.size,3,none⟩ = some (.slice (some ⟨g3,0,none⟩) l0_3.length cc3):=(bc_ X0.out 3).trans rfl;
       have pp0:w12.cell? ⟨w3.heap.size,0,none⟩ = some (.int .i64 R0):=(bc_ W0.out 0).trans rfl;
       have pp1:w12.cell? ⟨w3.heap.size,1,none⟩ = some (.int .i64 R1):=(bc_ W0.out 1).trans rfl;
       have pp2:w12.cell? ⟨w3.heap.size,2,none⟩ = some (.slice E2 L2.length f2):=(bc_ W0.out 2).trans rfl;
       have pp3:w12.cell? ⟨w3.heap.size,3,none⟩ = some (.slice E3 L3.length f3):=(bc_ W0.out 3).trans rfl;
       have gg0:w12.cell? ⟨w5.heap.size,0,none⟩ = some (.int .i64 R0):=(bc_ G0.out 0).trans rfl;
       have gg1:w12.cell? ⟨w5.heap.size,1,none⟩ = some (.int .i64 R1):=(bc_ G0.out 1).trans rfl;
       have gg2:w12.cell? ⟨w5.heap.size,2,none⟩ = some (.slice A7 L2.length e7):=(bc_ G0.out 2).trans rfl;
       have gg3:w12.cell? ⟨w5.heap.size,3,none⟩ = some (.slice A8 L3.length e8):=(bc_ G0.out 3).trans rfl;
       obtain ⟨B2,d2,rfl⟩:=Kd.R_slice hu2;
       obtain ⟨B3,d3,rfl⟩:=Kd.R_slice hu3;
       have U2:=am_ (Kd.R_reads' hu2).2;
       have U3:=am_ (Kd.R_reads' hu3).2;
       clear hb hu2 hu3; clear _t tok10; have tok11:True:=trivial)
    | (go_at_call 29; have _t:=tok11; (with_reducible refine (HI.out B2 d2 B3 d3 _ U2.out.2 U2.out.1 U3.out.2 U3.out.1 (HGT.out _ HB.out)).mono ?_); rintro e w13 ⟨v12,v13,rfl,ho2,ho3,hb⟩; have n0_:=am_ (below_step HB.out hb);
       have n1_:=am_ (blk_keep Q0.out hb);
       have n2_:=am_ (Kd.R_below V2.out hb);
       have n3_:=am_ (Kd.R_below V3.out hb);
       have n4_:=am_ (blk_keep W0.out hb);
       have n5_:=am_ (blk_keep X0.out hb);
       have n6_:=am_ (blk_keep G0.out hb);
       have n7_:=am_ (Kd.R_below V7.out hb);
       have n8_:=am_ (Kd.R_below V8.out hb);
       clear q0 q1 q2 q3 x0 x1 x2 x3 pp0 pp1 pp2 pp3 gg0 gg1 gg2 gg3 HB Q0 V2 V3 W0 X0 G0 V7 V8;
       have HB:=n0_;
       have Q0:=n1_;
       have V2:=n2_;
       have V3:=n3_;
       have W0:=n4_;
       have X0:=n5_;
       have G0:=n6_;
       have V7:=n7_;
       have V8:=n8_;
       clear n0_ n1_ n2_ n3_ n4_ n5_ n6_ n7_ n8_;
       have q0:w13.cell? ⟨w.heap.size,0,none⟩ = some (.int .i64 a0_0):=(bc_ Q0.out 0).trans rfl;
       have q1:w13.cell? ⟨w.heap.size,1,none⟩ = some (.int .i64 a0_1):=(bc_ Q0.out 1).trans rfl;
       have q2:w13.cell? ⟨w.heap.size,2,none⟩ = some (.slice A0_2 l0_2.length c0_2):=(bc_ Q0.out 2).trans rfl;
       have q3:w13.cell? ⟨w.heap.size,3,none⟩ = some (.slice A0_3 l0_3.length c0_3):=(bc_ Q0.out 3).trans rfl;
       have x0:w13.cell? ⟨w4.heap.size,0,none⟩ = some (.int .i64 a0_0):=(bc_ X0.out 0).trans rfl;
       have x1:w13.cell? ⟨w4.heap.size,1,none⟩ = some (.int .i64 a0_1):=(bc_ X0.out 1).trans rfl;
       have x2:w13.cell? ⟨w4.heap.size,2,none⟩ = some (.slice (some ⟨g2,0,none⟩) l0_2.length cc2):=(bc_ X0.out 2).trans rfl;
       have x3:w13.cell? ⟨w4.heap.size,3,none⟩ = some (.slice (some ⟨g3,0,none⟩) l0_3.length cc3):=(bc_ X0.out 3).trans rfl;
       have pp0:w13.cell? ⟨w3.heap.size,0,none⟩ = some (.int .i64 R0):=(bc_ W0.out 0).trans rfl;
       have pp1:w13.cell? ⟨w3.heap.size,1,none⟩ = some (.int .i64 R1):=(bc_ W0.out 1).trans rfl;
       have pp2:w13.cell? ⟨w3.heap.size,2,none⟩ = some (.slice E2 L2.length f2):=(bc_ W0.out 2).trans rfl;
       have pp3:w13.cell? ⟨w3.heap.size,3,none⟩ = some (.slice E3 L3.length f3):=(bc_ W0.out 3).trans rfl;
       have gg0:w13.cell? ⟨w5.heap.size,0,none⟩ = some (.int .i64 R0):=(bc_ G0.out 0).trans rfl;
       have gg1:w13.cell? ⟨w5.heap.size,1,none⟩ = some (.int .i64 R1):=(bc_ G0.out 1).trans rfl;
       have gg2:w13.cell? ⟨w5.heap.size,2,none⟩ = some (.slice A7 L2.length e7):=(bc_ G0.out 2).trans rfl;
       have gg3:w13.cell? ⟨w5.heap.size,3,none⟩ = some (.slice A8 L3.length e8):=(bc_ G0.out 3).trans rfl;
       obtain ⟨A12,e12,rfl⟩:=Kd.R_slice ho2;
       obtain ⟨A13,e13,rfl⟩:=Kd.R_slice ho3;
       have V12:=am_ (Kd.R_reads' (Kd.R_alloc ho2 (.cells #[.int .i64 R0,.int .i64 R1,.slice A12 L2.length e12,.slice A13 L3.length e13] 36))).2;
       have V13:=am_ (Kd.R_reads' (Kd.R_alloc ho3 (.cells #[.int .i64 R0,.int .i64 R1,.slice A12 L2.length e12,.slice A13 L3.length e13] 36))).2;
       have hlt:w.heap.size < w13.heap.size:=(Array.getElem?_eq_some_iff.1 Q0.out).1;
       have hlt2:w3.heap.size < w13.heap.size:=(Array.getElem?_eq_some_iff.1 W0.out).1;
       have hlt3:w5.heap.size < w13.heap.size:=(Array.getElem?_eq_some_iff.1 G0.out).1;
       clear hb ho2 ho3 U2 U3; clear _t tok11; have tok12:True:=trivial)
    | (go_at_call 23; have _t:=tok12; (with_reducible refine (laws_eqFigure.calls K R0 R1 _ _ L2 _ _ L3 R0 R1 _ _ L2 _ _ L3 true _ V12.out.2 V12.out.1 V13.out.2 V13.out.1 (Kd.R_reads' (Kd.R_alloc V2.out _)).2.2 (Kd.R_reads' V2.out).2.1 (Kd.R_reads' (Kd.R_alloc V3.out _)).2.2 (Kd.R_reads' V3.out).2.1 hE.out).mono ?_); rintro e w14 ⟨rfl,hb⟩; have n0_:=am_ (below_step (below_alloc HB.out _) hb);
       have n1_:=am_ (blk_keep (blk_alloc Q0.out _) hb);
       have n2_:=am_ (Kd.R_below (Kd.R_alloc V2.out _) hb);
       have n3_:=am_ (Kd.R_below (Kd.R_alloc V3.out _) hb);
       have n4_:=am_ (blk_keep (blk_alloc W0.out _) hb);
       have n5_:=am_ (blk_keep (blk_alloc X0.out _) hb);
       have n6_:=am_ (blk_keep (blk_alloc G0.out _) hb);
       have n7_:=am_ (Kd.R_below (Kd.R_alloc V7.out _) hb);
       have n8_:=am_ (Kd.R_below (Kd.R_alloc V8.out _) hb);
       clear q0 q1 q2 q3 x0 x1 x2 x3 pp0 pp1 pp2 pp3 gg0 gg1 gg2 gg3 HB Q0 V2 V3 W0 X0 G0 V7 V8;
       have HB:=n0_;
       have Q0:=n1_;
       have V2:=n2_;
       have V3:=n3_;
       have W0:=n4_;
       have X0:=n5_;
       have G0:=n6_;
       have V7:=n7_;
       have V8:=n8_;
       clear n0_ n1_ n2_ n3_ n4_ n5_ n6_ n7_ n8_;
       have q0:w14.cell? ⟨w.heap.size,0,none⟩ = some (.int .i64 a0_0):=(bc_ Q0.out 0).trans rfl;
       have q1:w14.cell? ⟨w.heap.size,1,none⟩ = some (.int .i64 a0_1):=(bc_ Q0.out 1).trans rfl;
       have q2:w14.cell? ⟨w.heap.size,2,none⟩ = some (.slice A0_2 l0_2.length c0_2):=(bc_ Q0.out 2).trans rfl;
       have q3:w14.cell? ⟨w.heap.size,3,none⟩ = some (.slice A0_3 l0_3.length c0_3):=(bc_ Q0.out 3).trans rfl;
       have x0:w14.cell? ⟨w4.heap.size,0,none⟩ = some (.int .i64 a0_0):=(bc_ X0.out 0).trans rfl;
       have x1:w14.cell? ⟨w4.heap.size,1,none⟩ = some (.int .i64 a0_1):=(bc_ X0.out 1).trans rfl;
       have x2:w14.cell? ⟨w4.heap.size,2,none⟩ = some (.slice (some ⟨g2,0,none⟩) l0_2.length cc2):=(bc_ X0.out 2).trans rfl;
       have x3:w14.cell? ⟨w4.heap.size,3,none⟩ = some (.slice (some ⟨g3,0,none⟩) l0_3.length cc3):=(bc_ X0.out 3).trans rfl;
       have pp0:w14.cell? ⟨w3.heap.size,0,none⟩ = some (.int .i64 R0):=(bc_ W0.out 0).trans rfl;
       have pp1:w14.cell? ⟨w3.heap.size,1,none⟩ = some (.int .i64 R1):=(bc_ W0.out 1).trans rfl;
       have pp2:w14.cell? ⟨w3.heap.size,2,none⟩ = some (.slice E2 L2.length f2):=(bc_ W0.out 2).trans rfl;
       have pp3:w14.cell? ⟨w3.heap.size,3,none⟩ = some (.slice E3 L3.length f3):=(bc_ W0.out 3).trans rfl;
       have gg0:w14.cell? ⟨w5.heap.size,0,none⟩ = some (.int .i64 R0):=(bc_ G0.out 0).trans rfl;
       have gg1:w14.cell? ⟨w5.heap.size,1,none⟩ = some (.int .i64 R1):=(bc_ G0.out 1).trans rfl;
       have gg2:w14.cell? ⟨w5.heap.size,2,none⟩ = some (.slice A7 L2.length e7):=(bc_ G0.out 2).trans rfl;
       have gg3:w14.cell? ⟨w5.heap.size,3,none⟩ = some (.slice A8 L3.length e8):=(bc_ G0.out 3).trans rfl;
       clear hb V12 V13 hlt hlt2 hlt3; clear _t tok12; have tok13:True:=trivial)
    | (go_at_call 25; have _t:=tok13; (with_reducible refine (heldFigure_marks K R0 R1 L2.length L3.length mm A7 e7 A8 e8 _ _ _ _ V7.out V8.out hHC.out).mono ?_); rintro e w15 ⟨rfl,hb⟩; have HBe:=am_ (below_step HB.out hb);
       clear hb; clear _t tok13; have tok14:True:=trivial))
  go_ret
  exact ⟨by first | rfl | simp,HBe.out⟩


def spec_l1In.f (a0:Int) (a1:Int) (a2:Int):Option (Bool):=if a0 ≥ a1 then (some (decide (a0 ≤ a2))) else (some false)
set_option maxHeartbeats 8000000 in
set_option maxRecDepth 100000 in
theorem spec_l1In.calls (a0:Int) (a1:Int) (a2:Int) (r:Bool) (w:World) (h:spec_l1In.f a0 a1 a2 = some r) :
    Calls Tryd.prog 75 #[.int .i64 a0,.int .i64 a1,.int .i64 a2] w fun e w' => e = .returned (.bool r) ∧ Drawn0 w w':=by
  have H:(if a0 ≥ a1 then (some (decide (a0 ≤ a2))) else (some false)) = some r:=h
  clear h
  by_cases c4:a0 ≥ a1
  · rw [if_pos c4] at H
    have c4b0:decide (a1 ≤ a0) = true:=decide_eq_true c4
    clear c4
    obtain rfl:=Option.some.inj H
    go_enter Tryd.func75,Tryd.ntmps75
    go_wp2
    go_ret
    exact ⟨by first | rfl | (simp; done) | (simp [*]; done),by repeat (first | exact Drawn0.refl _ | apply Drawn0.step)⟩
  · rw [if_neg c4] at H
    have c4b0:decide (a1 ≤ a0) = false:=decide_eq_false c4
    clear c4
    obtain rfl:=Option.some.inj H
    go_enter Tryd.func75,Tryd.ntmps75
    go_wp2
    go_ret
    exact ⟨by first | rfl | (simp; done) | (simp [*]; done),by repeat (first | exact Drawn0.refl _ | apply Drawn0.step)⟩


def spec_fiGrid.f (a0:Int) (a1:Int):Option (Bool):=(spec_l1In.f a0 1 4).bind fun t133 => (if t133 = true then ((spec_l1In.f a1 1 4).bind fun t134 => (some t134)) else (some false))
set_option maxHeartbeats 8000000 in
set_option maxRecDepth 100000 in
theorem spec_fiGrid.calls (a0:Int) (a1:Int) (r:Bool) (w:World) (h:spec_fiGrid.f a0 a1 = some r) :
    Calls Tryd.prog 63 #[.int .i64 a0,.int .i64 a1] w fun e w' => e = .returned (.bool r) ∧ Drawn0 w w':=by
  have H:((spec_l1In.f a0 1 4).bind fun t133 => (if t133 = true then ((spec_l1In.f a1 1 4).bind fun t134 => (some t134)) else (some false))) = some r:=h
  clear h
  replace H:=bi_ H
  obtain ⟨t133,A30,H⟩:=H
  replace H:(if t133 = true then ((spec_l1In.f a1 1 4).bind fun t134 => (some t134)) else (some false)) = some r:=H
  have A3:=am_ A30
  clear A30
  by_cases c4:t133 = true
  · subst c4
    have H1:((spec_l1In.f a1 1 4).bind fun t134 => (some t134)) = some r:=by rw [if_pos rfl] at H; exact H
    clear H
    have H:=H1
    clear H1
    replace H:=bi_ H
    obtain ⟨t134,A50,H⟩:=H
    replace H:(some t134) = some r:=H
    have A5:=am_ A50
    clear A50
    obtain rfl:=Option.some.inj H
    go_enter Tryd.func63,Tryd.ntmps63
    go_wp2_with (first | ((with_reducible refine gate_callee (f:=75) rfl ?_); refine goesL_ (some 6) rfl rfl Tryd.func75 (by kernel_rfl) rfl #[.int .i64 a0,.int .i64 1,.int .i64 4] rfl ob_ ?_; (with_reducible refine (spec_l1In.calls a0 1 4 true _ A3.out).mono ?_); rintro e w' ⟨rfl,⟨nd,rfl⟩⟩; refine ⟨_,rfl,?_⟩) | (go_at_call 75; (with_reducible refine (spec_l1In.calls a1 1 4 t134 _ A5.out).mono ?_); rintro e w' ⟨rfl,⟨nd,rfl⟩⟩))
    go_ret
    exact ⟨by first | rfl | (simp; done) | (simp [*]; done),by repeat (first | exact Drawn0.refl _ | apply Drawn0.step)⟩
  · replace c4:=Bool.eq_false_iff.mpr c4
    subst c4
    have H1:(some false) = some r:=by rw [if_neg (show ¬ (false = true) by decide)] at H; exact H
    clear H
    have H:=H1
    clear H1
    obtain rfl:=Option.some.inj H
    go_enter Tryd.func63,Tryd.ntmps63
    go_wp2_with (first | ((with_reducible refine gate_callee (f:=75) rfl ?_); refine goesL_ (some 6) rfl rfl Tryd.func75 (by kernel_rfl) rfl #[.int .i64 a0,.int .i64 1,.int .i64 4] rfl ob_ ?_; (with_reducible refine (spec_l1In.calls a0 1 4 false _ A3.out).mono ?_); rintro e w' ⟨rfl,⟨nd,rfl⟩⟩; refine ⟨_,rfl,?_⟩))
    go_ret
    exact ⟨by first | rfl | (simp; done) | (simp [*]; done),by repeat (first | exact Drawn0.refl _ | apply Drawn0.step)⟩


def spec_l1All.l0:Nat → Int → Int → List Int → Int → Int → Option (Bool)
  | 0,_,_,_,_,_ => none
  | k + 1,x1,x2,x9,x10,x11 => if x11 < x10 then (if 0 ≤ x11 then (if x11 < (x9.length:Int) then ((spec_l1In.f (rd x9 x11) x1 x2).bind fun t136 => (if t136 = true then (spec_l1All.l0 k x1 x2 x9 x10 (wrap64 (x11 + 1))) else (some false))) else (none)) else (none)) else (some true)
def spec_l1All.f (k:Nat) (l0:List Int) (a1:Int) (a2:Int):Option (Bool):=spec_l1All.l0 k a1 a2 l0 (l0.length:Int) 0
theorem spec_l1All.mono_l:∀ k,(∀ y0 y1 y2 y3 y4,LeO (spec_l1All.l0 k y0 y1 y2 y3 y4) (spec_l1All.l0 (k + 1) y0 y1 y2 y3 y4))
  | 0 => fun _ _ _ _ _ r h => by simp [spec_l1All.l0] at h
  | k + 1 => by
    have ih0:=spec_l1All.mono_l k
    · intro y0 y1 y2 y3 y4
      unfold spec_l1All.l0
      repeat' first | (with_reducible first | exact ih0 _ _ _ _ _ | exact LeO.refl _ | exact LeO.none _ | refine LeO.ite ?_ ?_ | refine LeO.bind ?_ (fun _ => ?_)) | exact ih0 _ _ _ _ _
theorem spec_l1All.mono:∀ a0 a1 a2 k,LeO (spec_l1All.f k a0 a1 a2) (spec_l1All.f (k + 1) a0 a1 a2):=by
  intro a0 a1 a2 k
  have ih0:=spec_l1All.mono_l k
  unfold spec_l1All.f
  repeat' first | (with_reducible first | exact ih0 _ _ _ _ _ | exact LeO.refl _ | exact LeO.none _ | refine LeO.ite ?_ ?_ | refine LeO.bind ?_ (fun _ => ?_)) | exact ih0 _ _ _ _ _
set_option maxHeartbeats 8000000 in
set_option maxRecDepth 100000 in
theorem spec_l1All.calls (k:Nat) (A0:Option Addr) (c0:Nat) (l0:List Int) (a1:Int) (a2:Int) (r:Bool) (w:World) (hr0:Kd.C (Kd.int .i64) w A0 l0.length l0) (hc0:l0.length ≤ c0) (h:spec_l1All.f k l0 a1 a2 = some r) :
    Calls Tryd.prog 77 #[.slice A0 l0.length c0,.int .i64 a1,.int .i64 a2] w fun e w' => e = .returned (.bool r) ∧ Drawn0 w w':=by
  have HR0:=am_ hr0
  have HC0:=am_ hc0
  clear hr0 hc0
  have H:(spec_l1All.l0 k a1 a2 l0 (l0.length:Int) 0) = some r:=h
  clear h
  have H':=am_ H
  clear H
  go_enter Tryd.func77,Tryd.ntmps77
  go_wp2
  go_loopg [11] k (fun kq v11 w' => ∃ (x11_1:Int),v11 = .int .i64 x11_1 ∧ Aside0 (spec_l1All.l0 kq a1 a2 l0 (l0.length:Int) x11_1 = some r) ∧ Aside0 (kq ≤ k) ∧ Drawn0 w w')
  case atStart => exact ⟨(0),rs_,H',⟨Nat.le_refl _⟩,by repeat (first | exact Drawn0.refl _ | apply Drawn0.step)⟩
  case round =>
    clear H'
    try clear p2
    obtain ⟨x11_1,rfl,HA,HK1,⟨m1,rfl⟩⟩:=hrel
    cases gk with
    | zero => exact absurd HA.out (by simp [spec_l1All.l0])
    | succ k1 =>
      have H:=HA.out
      clear HA
      simp only [spec_l1All.l0] at H
      by_cases c4:x11_1 < (l0.length:Int)
      · rw [if_pos c4] at H
        have c4b0:decide (x11_1 < (l0.length:Int)) = true:=decide_eq_true c4
        clear c4
        by_cases c5:0 ≤ x11_1
        · rw [if_pos c5] at H
          have c5b0:decide (0 ≤ x11_1) = true:=decide_eq_true c5
          clear c5
          by_cases c6:x11_1 < (l0.length:Int)
          · rw [if_pos c6] at H
            have c6b0:decide (x11_1 < (l0.length:Int)) = true:=decide_eq_true c6
            clear c6
            replace H:=bi_ H
            obtain ⟨t136,A70,H⟩:=H
            replace H:(if t136 = true then (spec_l1All.l0 k1 a1 a2 l0 (l0.length:Int) (wrap64 (x11_1 + 1))) else (some false)) = some r:=H
            have A7:=am_ A70
            clear A70
            by_cases c8:t136 = true
            · subst c8
              have H1:(spec_l1All.l0 k1 a1 a2 l0 (l0.length:Int) (wrap64 (x11_1 + 1))) = some r:=by rw [if_pos rfl] at H; exact H
              clear H
              have H:=H1
              clear H1
              have H':=am_ H
              clear H
              have p135:0 ≤ (x11_1:Int):=of_decide_eq_true as_
              have q135:x11_1 < (l0.length:Int):=of_decide_eq_true as_
              obtain ⟨ad135,e135,hx135_0⟩:=Kd.at_int HR0.out x11_1 p135 q135
              cases e135
              replace p135:=eq_true p135
              replace q135:=eq_true q135
              go_wp2_with (first | ((with_reducible refine gate_callee (f:=75) rfl ?_); refine goesL_ (some 18) rfl rfl Tryd.func75 (by kernel_rfl) rfl #[.int .i64 (rd l0 x11_1),.int .i64 a1,.int .i64 a2] rfl ob_ ?_; (with_reducible refine (spec_l1In.calls (rd l0 x11_1) a1 a2 true _ A7.out).mono ?_); rintro e w' ⟨rfl,⟨nd,rfl⟩⟩; refine ⟨_,rfl,?_⟩))
              go_roundg k1
              case measure => have:=HK1.out; omega
              case rel => exact ⟨(wrap64 (x11_1 + 1)),rs_,H',⟨by have:=HK1.out; omega⟩,by repeat (first | exact Drawn0.refl _ | apply Drawn0.step)⟩
            · replace c8:=Bool.eq_false_iff.mpr c8
              subst c8
              have H1:(some false) = some r:=by rw [if_neg (show ¬ (false = true) by decide)] at H; exact H
              clear H
              have H:=H1
              clear H1
              obtain rfl:=Option.some.inj H
              have p135:0 ≤ (x11_1:Int):=of_decide_eq_true as_
              have q135:x11_1 < (l0.length:Int):=of_decide_eq_true as_
              obtain ⟨ad135,e135,hx135_0⟩:=Kd.at_int HR0.out x11_1 p135 q135
              cases e135
              replace p135:=eq_true p135
              replace q135:=eq_true q135
              go_wp2_with (first | ((with_reducible refine gate_callee (f:=75) rfl ?_); refine goesL_ (some 18) rfl rfl Tryd.func75 (by kernel_rfl) rfl #[.int .i64 (rd l0 x11_1),.int .i64 a1,.int .i64 a2] rfl ob_ ?_; (with_reducible refine (spec_l1In.calls (rd l0 x11_1) a1 a2 false _ A7.out).mono ?_); rintro e w' ⟨rfl,⟨nd,rfl⟩⟩; refine ⟨_,rfl,?_⟩))
              go_ret
              exact ⟨by first | rfl | (simp; done) | (simp [*]; done),by repeat (first | exact Drawn0.refl _ | apply Drawn0.step)⟩
          · rw [if_neg c6] at H
            exact absurd H (by simp)
        · rw [if_neg c5] at H
          exact absurd H (by simp)
      · rw [if_neg c4] at H
        have c4b0:decide (x11_1 < (l0.length:Int)) = false:=decide_eq_false c4
        clear c4
        obtain rfl:=Option.some.inj H
        go_wp2
        go_ret
        exact ⟨by first | rfl | (simp; done) | (simp [*]; done),by repeat (first | exact Drawn0.refl _ | apply Drawn0.step)⟩


mutual
def spec_fiRises.j0:Nat → List Int → Bool → Option (Bool)
 | 0,_,_ => none
 | k + 1,x0,x16 => if x16 = true then (some false) else (spec_fiRises.l0 k x0 1)
def spec_fiRises.l0:Nat → List Int → Int → Option (Bool)
 | 0,_,_ => none
 | k + 1,x0,x5 => if x5 < (x0.length:Int) then (if 0 ≤ (wrap64 (x5 - 1)) then (if (wrap64 (x5 - 1)) < (x0.length:Int) then (if 0 ≤ x5 then (if (rd x0 (wrap64 (x5 - 1))) ≥ (rd x0 x5) then (some false) else (spec_fiRises.l0 k x0 (wrap64 (x5 + 1)))) else (none)) else (none)) else (none)) else (some true)
end
def spec_fiRises.f (k:Nat) (l0:List Int) (a1:Int):Option (Bool):=if (l0.length:Int) > (wrap64 (a1 + 1)) then (spec_fiRises.j0 k l0 true) else ((spec_l1All.f k l0 0 a1).bind fun t137 => (spec_fiRises.j0 k l0 (!t137)))
theorem spec_fiRises.mono_l:∀ k,(∀ y0 y1,LeO (spec_fiRises.j0 k y0 y1) (spec_fiRises.j0 (k + 1) y0 y1)) ∧ (∀ y0 y1,LeO (spec_fiRises.l0 k y0 y1) (spec_fiRises.l0 (k + 1) y0 y1))
 | 0 => ⟨fun _ _ r h => by simp [spec_fiRises.j0] at h,fun _ _ r h => by simp [spec_fiRises.l0] at h⟩
 | k + 1 => by
  obtain ⟨ih0,ih1⟩:=spec_fiRises.mono_l k
  refine ⟨?_,?_⟩
  ·intro y0 y1
   unfold spec_fiRises.j0
   repeat' first | (with_reducible first | exact ih0 _ _ | exact ih1 _ _ | exact spec_l1All.mono _ _ _ _ | exact LeO.refl _ | exact LeO.none _ | refine LeO.ite ?_ ?_ | refine LeO.bind ?_ (fun _ => ?_)) | exact ih0 _ _ | exact ih1 _ _ | exact spec_l1All.mono _ _ _ _
  ·intro y0 y1
   unfold spec_fiRises.l0
   repeat' first | (with_reducible first | exact ih0 _ _ | exact ih1 _ _ | exact spec_l1All.mono _ _ _ _ | exact LeO.refl _ | exact LeO.none _ | refine LeO.ite ?_ ?_ | refine LeO.bind ?_ (fun _ => ?_)) | exact ih0 _ _ | exact ih1 _ _ | exact spec_l1All.mono _ _ _ _
theorem spec_fiRises.mono:∀ a0 a1 k,LeO (spec_fiRises.f k a0 a1) (spec_fiRises.f (k + 1) a0 a1):=by
 intro a0 a1 k
 obtain ⟨ih0,ih1⟩:=spec_fiRises.mono_l k
 unfold spec_fiRises.f
 repeat' first | (with_reducible first | exact ih0 _ _ | exact ih1 _ _ | exact spec_l1All.mono _ _ _ _ | exact LeO.refl _ | exact LeO.none _ | refine LeO.ite ?_ ?_ | refine LeO.bind ?_ (fun _ => ?_)) | exact ih0 _ _ | exact ih1 _ _ | exact spec_l1All.mono _ _ _ _
set_option maxHeartbeats 8000000 in
set_option maxRecDepth 100000 in
theorem spec_fiRises.calls (k:Nat) (A0:Option Addr) (c0:Nat) (l0:List Int) (a1:Int) (r:Bool) (w:World) (hr0:Kd.C (Kd.int .i64) w A0 l0.length l0) (hc0:l0.length ≤ c0) (h:spec_fiRises.f k l0 a1 = some r) :
  Calls Tryd.prog 127 #[.slice A0 l0.length c0,.int .i64 a1] w fun e w' => e = .returned (.bool r) ∧ Drawn0 w w':=by
 have HR0:=am_ hr0
 have HC0:=am_ hc0
 clear hr0 hc0
 have H:(if (l0.length:Int) > (wrap64 (a1 + 1)) then (spec_fiRises.j0 k l0 true) else ((spec_l1All.f k l0 0 a1).bind fun t137 => (spec_fiRises.j0 k l0 (!t137)))) = some r:=h
 clear h
 have HC3:=am_ H
 clear H
 go_enter Tryd.func127,Tryd.ntmps127
 go_upto_region 1 with (fail)
 repeat (go_quiet (fail); go_upto_region 1 with (fail))
 go_cut [16] (fun v16 wc => ∃ (kq:Nat) (x16_2:Bool),v16 = .bool x16_2 ∧ Aside0 (spec_fiRises.j0 kq l0 x16_2 = some r) ∧ Aside0 (kq ≤ k) ∧ Drawn0 w wc)
 case first =>
  have H:=HC3.out
  clear HC3
  by_cases c4:(l0.length:Int) > (wrap64 (a1 + 1))
  ·rw [if_pos c4] at H
   have c4b0:decide ((wrap64 (a1 + 1)) < (l0.length:Int)) = true:=decide_eq_true c4
   clear c4
   (first | rw [c4b0] | (simp only [i64_w,i32_w]; rw [c4b0]) | skip)
   have H':=am_ H
   clear H
   go_wp2
   repeat (go_quiet (fail); try go_wp2)
   go_meet
   case rel => exact ⟨_,(true),rs_,H',⟨by first | omega | exact Nat.le_refl _⟩,by repeat (first | exact Drawn0.refl _ | apply Drawn0.step)⟩
  ·rw [if_neg c4] at H
   have c4b0:decide ((wrap64 (a1 + 1)) < (l0.length:Int)) = false:=decide_eq_false c4
   clear c4
   (first | rw [c4b0] | (simp only [i64_w,i32_w]; rw [c4b0]) | skip)
   replace H:=bi_ H
   obtain ⟨t137,A50,H⟩:=H
   replace H:(spec_fiRises.j0 k l0 (!t137)) = some r:=H
   have A5:=am_ A50
   clear A50
   have H':=am_ H
   clear H
   go_wp2_with (first | (go_at_call 77; (with_reducible refine (spec_l1All.calls k _ _ l0 0 a1 t137 _ ?side1 ?side2 A5.out).mono ?_); (case side1 => repeat (first | exact HR0.out | (with_reducible refine Kd.C_alloc ?_ _) | (with_reducible refine Kd.C_drewN ?_ _) | (with_reducible refine Kd.C_drew ?_))); (case side2 => exact HC0.out); rintro e w' ⟨rfl,⟨nd,rfl⟩⟩; (try first | exact ⟨rfl,_,World.drewN_drewN _ _ _⟩ | exact ⟨rfl,_,Eq.trans (World.drewN_drewN _ _ _) (congrArg (World.drewN _) (Nat.add_assoc _ _ _))⟩)))
   repeat (go_quiet (first | (go_at_call 77; (with_reducible refine (spec_l1All.calls k _ _ l0 0 a1 t137 _ ?side1 ?side2 A5.out).mono ?_); (case side1 => repeat (first | exact HR0.out | (with_reducible refine Kd.C_alloc ?_ _) | (with_reducible refine Kd.C_drewN ?_ _) | (with_reducible refine Kd.C_drew ?_))); (case side2 => exact HC0.out); rintro e w' ⟨rfl,⟨nd,rfl⟩⟩; (try first | exact ⟨rfl,_,World.drewN_drewN _ _ _⟩ | exact ⟨rfl,_,Eq.trans (World.drewN_drewN _ _ _) (congrArg (World.drewN _) (Nat.add_assoc _ _ _))⟩))); try go_wp2_with (first | (go_at_call 77; (with_reducible refine (spec_l1All.calls k _ _ l0 0 a1 t137 _ ?side1 ?side2 A5.out).mono ?_); (case side1 => repeat (first | exact HR0.out | (with_reducible refine Kd.C_alloc ?_ _) | (with_reducible refine Kd.C_drewN ?_ _) | (with_reducible refine Kd.C_drew ?_))); (case side2 => exact HC0.out); rintro e w' ⟨rfl,⟨nd,rfl⟩⟩; (try first | exact ⟨rfl,_,World.drewN_drewN _ _ _⟩ | exact ⟨rfl,_,Eq.trans (World.drewN_drewN _ _ _) (congrArg (World.drewN _) (Nat.add_assoc _ _ _))⟩))))
   go_meet
   case rel => exact ⟨_,(!t137),rs_,H',⟨by first | omega | exact Nat.le_refl _⟩,by repeat (first | exact Drawn0.refl _ | apply Drawn0.step)⟩
 case rest =>
  clear HC3
  try clear c1
  try clear p2
  try clear c4
  try clear c4b0
  obtain ⟨kq,x16_2,rfl,HA,HJ2,⟨mc2,rfl⟩⟩:=hcut
  cases kq with
  | zero => exact absurd HA.out (by simp [spec_fiRises.j0])
  | succ kj2 =>
   have H:=HA.out
   clear HA
   simp only [spec_fiRises.j0] at H
   by_cases c6:x16_2 = true
   ·subst c6
    have H1:(some false) = some r:=by rw [if_pos rfl] at H; exact H
    clear H
    have H:=H1
    clear H1
    obtain rfl:=Option.some.inj H
    go_wp2
    repeat (go_quiet (fail); try go_wp2)
    go_ret
    exact ⟨by first | rfl | (simp; done) | (simp [*]; done),by repeat (first | exact Drawn0.refl _ | apply Drawn0.step)⟩
   ·replace c6:=Bool.eq_false_iff.mpr c6
    subst c6
    have H1:(spec_fiRises.l0 kj2 l0 1) = some r:=by rw [if_neg (show ¬ (false = true) by decide)] at H; exact H
    clear H
    have H:=H1
    clear H1
    have H':=am_ H
    clear H
    go_wp2
    repeat (go_quiet (fail); try go_wp2)
    go_loopg [5] kj2 (fun kq v5 w' => ∃ (x5_2:Int),v5 = .int .i64 x5_2 ∧ Aside0 (spec_fiRises.l0 kq l0 x5_2 = some r) ∧ Aside0 (kq ≤ kj2) ∧ Drawn0 w w')
    case atStart => exact ⟨(1),rs_,H',⟨Nat.le_refl _⟩,by repeat (first | exact Drawn0.refl _ | apply Drawn0.step)⟩
    case round =>
     clear H'
     try clear c1
     try clear c2
     try clear p2
     try clear c4
     try clear c4b0
     try clear c6
     try clear p6
     try clear p2
     obtain ⟨x5_2,rfl,HA,HK2,⟨m2,rfl⟩⟩:=hrel
     cases gk with
     | zero => exact absurd HA.out (by simp [spec_fiRises.l0])
     | succ k2 =>
      have H:=HA.out
      clear HA
      simp only [spec_fiRises.l0] at H
      by_cases c7:x5_2 < (l0.length:Int)
      ·rw [if_pos c7] at H
       have c7b0:decide (x5_2 < (l0.length:Int)) = true:=decide_eq_true c7
       clear c7
       obtain ⟨ji8,hji8⟩:∃ j_:Int,(wrap64 (x5_2 - 1)) = j_:=⟨_,rfl⟩
       replace H:(if 0 ≤ (ji8) then (if (ji8) < (l0.length:Int) then (if 0 ≤ x5_2 then (if (rd l0 (ji8)) ≥ (rd l0 x5_2) then (some false) else (spec_fiRises.l0 k2 l0 (wrap64 (x5_2 + 1)))) else (none)) else (none)) else (none)) = some r:=by first | (rw [hji8] at H; exact H) | (simp only [hji8] at H ⊢; exact H)
       have hji8w:(IntKind.i64.wrap (x5_2 - 1)) = ji8:=(i64_w _).trans hji8
       by_cases c9:0 ≤ (ji8)
       ·rw [if_pos c9] at H
        have c9b0:decide (0 ≤ (ji8)) = true:=decide_eq_true c9
        clear c9
        by_cases c10:(ji8) < (l0.length:Int)
        ·rw [if_pos c10] at H
         have c10b0:decide ((ji8) < (l0.length:Int)) = true:=decide_eq_true c10
         clear c10
         by_cases c11:0 ≤ x5_2
         ·rw [if_pos c11] at H
          have c11b0:decide (0 ≤ x5_2) = true:=decide_eq_true c11
          clear c11
          by_cases c12:(rd l0 (ji8)) ≥ (rd l0 x5_2)
          ·rw [if_pos c12] at H
           have c12b0:decide ((rd l0 x5_2) ≤ (rd l0 (ji8))) = true:=decide_eq_true c12
           clear c12
           obtain rfl:=Option.some.inj H
           have p138:0 ≤ ((ji8):Int):=of_decide_eq_true as_
           have q138:(ji8) < (l0.length:Int):=of_decide_eq_true as_
           obtain ⟨ad138,e138,hx138_0⟩:=Kd.at_int HR0.out (ji8) p138 q138
           cases e138
           replace p138:=eq_true p138
           replace q138:=eq_true q138
           have p139:0 ≤ (x5_2:Int):=of_decide_eq_true as_
           have q139:x5_2 < (l0.length:Int):=of_decide_eq_true as_
           obtain ⟨ad139,e139,hx139_0⟩:=Kd.at_int HR0.out x5_2 p139 q139
           obtain rfl:ad138 = ad139:=(by injection e139)
           replace p139:=eq_true p139
           replace q139:=eq_true q139
           go_wp2
           repeat (go_quiet (fail); try go_wp2)
           go_ret
           exact ⟨by first | rfl | (simp; done) | (simp only [← hji8] <;> (first | rfl | simp)) | (simp [*]; done),by repeat (first | exact Drawn0.refl _ | apply Drawn0.step)⟩
          ·rw [if_neg c12] at H
           have c12b0:decide ((rd l0 x5_2) ≤ (rd l0 (ji8))) = false:=decide_eq_false c12
           clear c12
           have H':=am_ H
           clear H
           have p138:0 ≤ ((ji8):Int):=of_decide_eq_true as_
           have q138:(ji8) < (l0.length:Int):=of_decide_eq_true as_
           obtain ⟨ad138,e138,hx138_0⟩:=Kd.at_int HR0.out (ji8) p138 q138
           cases e138
           replace p138:=eq_true p138
           replace q138:=eq_true q138
           have p139:0 ≤ (x5_2:Int):=of_decide_eq_true as_
           have q139:x5_2 < (l0.length:Int):=of_decide_eq_true as_
           obtain ⟨ad139,e139,hx139_0⟩:=Kd.at_int HR0.out x5_2 p139 q139
           obtain rfl:ad138 = ad139:=(by injection e139)
           replace p139:=eq_true p139
           replace q139:=eq_true q139
           go_wp2
           repeat (go_quiet (fail); try go_wp2)
           go_roundg k2
           case measure => have:=HJ2.out; have:=HK2.out; omega
           case rel => exact ⟨(wrap64 (x5_2 + 1)),rs_,H',⟨by have:=HJ2.out; have:=HK2.out; omega⟩,by repeat (first | exact Drawn0.refl _ | apply Drawn0.step)⟩
         ·rw [if_neg c11] at H
          exact absurd H (by simp)
        ·rw [if_neg c10] at H
         exact absurd H (by simp)
       ·rw [if_neg c9] at H
        exact absurd H (by simp)
      ·rw [if_neg c7] at H
       have c7b0:decide (x5_2 < (l0.length:Int)) = false:=decide_eq_false c7
       clear c7
       obtain rfl:=Option.some.inj H
       go_wp2
       repeat (go_quiet (fail); try go_wp2)
       go_ret
       exact ⟨by first | rfl | (simp; done) | (simp [*]; done),by repeat (first | exact Drawn0.refl _ | apply Drawn0.step)⟩


def spec_fiGood.f (k:Nat) (a0_0:Int) (a0_1:Int) (l0_2:List Int) (l0_3:List Int):Option (Bool):=(spec_fiGrid.f a0_0 a0_1).bind fun t141 => (if t141 = true then ((spec_fiRises.f k l0_2 (wrap64 ((wrap64 (a0_0 * (wrap64 (a0_1 + 1)))) - 1))).bind fun t142 => (if t142 = true then ((spec_fiRises.f k l0_3 (wrap64 ((wrap64 ((wrap64 (a0_0 + 1)) * a0_1)) - 1))).bind fun t143 => (some t143)) else (some false))) else (some false))
theorem spec_fiGood.mono:∀ a0 a1 a2 a3 k,LeO (spec_fiGood.f k a0 a1 a2 a3) (spec_fiGood.f (k + 1) a0 a1 a2 a3):=by
 intro a0 a1 a2 a3 k
 unfold spec_fiGood.f
 repeat' first | (with_reducible first | exact spec_fiRises.mono _ _ _ | exact LeO.refl _ | exact LeO.none _ | refine LeO.ite ?_ ?_ | refine LeO.bind ?_ (fun _ => ?_)) | exact spec_fiRises.mono _ _ _
set_option maxHeartbeats 8000000 in
set_option maxRecDepth 100000 in
theorem spec_fiGood.calls (k:Nat) (a0_0:Int) (a0_1:Int) (A0_2:Option Addr) (c0_2:Nat) (l0_2:List Int) (A0_3:Option Addr) (c0_3:Nat) (l0_3:List Int) (r:Bool) (w:World) (hr0_2:Kd.C (Kd.int .i64) w A0_2 l0_2.length l0_2) (hc0_2:l0_2.length ≤ c0_2) (hr0_3:Kd.C (Kd.int .i64) w A0_3 l0_3.length l0_3) (hc0_3:l0_3.length ≤ c0_3) (h:spec_fiGood.f k a0_0 a0_1 l0_2 l0_3 = some r) :
  Calls Tryd.prog 91 #[.agg #[.int .i64 a0_0,.int .i64 a0_1,.slice A0_2 l0_2.length c0_2,.slice A0_3 l0_3.length c0_3]] w fun e w' => e = .returned (.bool r) ∧ Below w.heap.size w w':=by
 have hu36:=Tryd.underlying36
 have HR0_2:=am_ hr0_2
 have HC0_2:=am_ hc0_2
 clear hr0_2 hc0_2
 have HR0_3:=am_ hr0_3
 have HC0_3:=am_ hc0_3
 clear hr0_3 hc0_3
 have HB:=am_ (Below.refl w.heap.size w)
 have H:((spec_fiGrid.f a0_0 a0_1).bind fun t141 => (if t141 = true then ((spec_fiRises.f k l0_2 (wrap64 ((wrap64 (a0_0 * (wrap64 (a0_1 + 1)))) - 1))).bind fun t142 => (if t142 = true then ((spec_fiRises.f k l0_3 (wrap64 ((wrap64 ((wrap64 (a0_0 + 1)) * a0_1)) - 1))).bind fun t143 => (some t143)) else (some false))) else (some false))) = some r:=h
 clear h
 replace H:=bi_ H
 obtain ⟨t141,A20,H⟩:=H
 replace H:(if t141 = true then ((spec_fiRises.f k l0_2 (wrap64 ((wrap64 (a0_0 * (wrap64 (a0_1 + 1)))) - 1))).bind fun t142 => (if t142 = true then ((spec_fiRises.f k l0_3 (wrap64 ((wrap64 ((wrap64 (a0_0 + 1)) * a0_1)) - 1))).bind fun t143 => (some t143)) else (some false))) else (some false)) = some r:=H
 have A2:=am_ A20
 clear A20
 by_cases c3:t141 = true
 ·subst c3
  have H1:((spec_fiRises.f k l0_2 (wrap64 ((wrap64 (a0_0 * (wrap64 (a0_1 + 1)))) - 1))).bind fun t142 => (if t142 = true then ((spec_fiRises.f k l0_3 (wrap64 ((wrap64 ((wrap64 (a0_0 + 1)) * a0_1)) - 1))).bind fun t143 => (some t143)) else (some false))) = some r:=by rw [if_pos rfl] at H; exact H
  clear H
  have H:=H1
  clear H1
  replace H:=bi_ H
  obtain ⟨t142,A40,H⟩:=H
  replace H:(if t142 = true then ((spec_fiRises.f k l0_3 (wrap64 ((wrap64 ((wrap64 (a0_0 + 1)) * a0_1)) - 1))).bind fun t143 => (some t143)) else (some false)) = some r:=H
  have A4:=am_ A40
  clear A40
  by_cases c5:t142 = true
  ·subst c5
   have H1:((spec_fiRises.f k l0_3 (wrap64 ((wrap64 ((wrap64 (a0_0 + 1)) * a0_1)) - 1))).bind fun t143 => (some t143)) = some r:=by rw [if_pos rfl] at H; exact H
   clear H
   have H:=H1
   clear H1
   replace H:=bi_ H
   obtain ⟨t143,A60,H⟩:=H
   replace H:(some t143) = some r:=H
   have A6:=am_ A60
   clear A60
   obtain rfl:=Option.some.inj H
   go_enter Tryd.func91,Tryd.ntmps91
   go_wp2_with (first | ((with_reducible refine gate_dst (N:=1) rfl ?_); refine boxE_ (N:=1) (cs:=#[.int .i64 a0_0,.int .i64 a0_1,.slice A0_2 l0_2.length c0_2,.slice A0_3 l0_3.length c0_3]) (t:=36) ?_; intro gb140 hg w7 hbox hb; have n0_:=am_ (below_step (bl0_ HB.out) hb); have n1_:=am_ (hbox); have n2_:=am_ ((bs0_ hg HB.out:w.heap.size ≤ gb140)); have n3_:=am_ ((bs0_ hg HB.out:w.heap.size ≤ gb140)); clear HB; have HB:=n0_; have BK140:=n1_; have GW140:=n2_; have GE140:=n3_; clear n0_ n1_ n2_ n3_; clear hb hbox hg; have hcz8_0:w7.cell? ⟨gb140,0,none⟩ = some (.int .i64 a0_0):=(bc_ BK140.out 0).trans rfl; have hcz8_1:w7.cell? ⟨gb140,1,none⟩ = some (.int .i64 a0_1):=(bc_ BK140.out 1).trans rfl; have hcz8_2:w7.cell? ⟨gb140,2,none⟩ = some (.slice A0_2 l0_2.length c0_2):=(bc_ BK140.out 2).trans rfl; have hcz8_3:w7.cell? ⟨gb140,3,none⟩ = some (.slice A0_3 l0_3.length c0_3):=(bc_ BK140.out 3).trans rfl; have hfz8_0:=bz_ BK140.out 0; have hfz8_1:=bz_ BK140.out 1; have hfz8_2:=bz_ BK140.out 2; have hfz8_3:=bz_ BK140.out 3) | ((with_reducible refine gate_callee (f:=63) rfl ?_); refine goesL_ (some 7) rfl rfl Tryd.func63 (by kernel_rfl) rfl #[.int .i64 a0_0,.int .i64 a0_1] rfl ob_ ?_; (with_reducible refine (spec_fiGrid.calls a0_0 a0_1 true _ A2.out).mono ?_); rintro e w' ⟨rfl,⟨nd,rfl⟩⟩; refine ⟨_,rfl,?_⟩) | (go_at_call 127; (with_reducible refine (spec_fiRises.calls k _ _ l0_2 (wrap64 ((wrap64 (a0_0 * (wrap64 (a0_1 + 1)))) - 1)) true _ ?side1 ?side2 A4.out).mono ?_); (case side1 => repeat (first | exact (Kd.C_below HR0_2.out (bl1_ HB.out GE140.out)) | (with_reducible refine Kd.C_alloc ?_ _) | (with_reducible refine Kd.C_drewN ?_ _) | (with_reducible refine Kd.C_drew ?_))); (case side2 => exact HC0_2.out); rintro e w' ⟨rfl,⟨nd,rfl⟩⟩) | (go_at_call 127; (with_reducible refine (spec_fiRises.calls k _ _ l0_3 (wrap64 ((wrap64 ((wrap64 (a0_0 + 1)) * a0_1)) - 1)) t143 _ ?side1 ?side2 A6.out).mono ?_); (case side1 => repeat (first | exact (Kd.C_below HR0_3.out (bl1_ HB.out GE140.out)) | (with_reducible refine Kd.C_alloc ?_ _) | (with_reducible refine Kd.C_drewN ?_ _) | (with_reducible refine Kd.C_drew ?_))); (case side2 => exact HC0_3.out); rintro e w' ⟨rfl,⟨nd,rfl⟩⟩))
   go_ret
   exact ⟨er_,bl1_ HB.out GE140.out⟩
  ·replace c5:=Bool.eq_false_iff.mpr c5
   subst c5
   have H1:(some false) = some r:=by rw [if_neg (show ¬ (false = true) by decide)] at H; exact H
   clear H
   have H:=H1
   clear H1
   obtain rfl:=Option.some.inj H
   go_enter Tryd.func91,Tryd.ntmps91
   go_wp2_with (first | ((with_reducible refine gate_dst (N:=1) rfl ?_); refine boxE_ (N:=1) (cs:=#[.int .i64 a0_0,.int .i64 a0_1,.slice A0_2 l0_2.length c0_2,.slice A0_3 l0_3.length c0_3]) (t:=36) ?_; intro gb140 hg w9 hbox hb; have n0_:=am_ (below_step (bl0_ HB.out) hb); have n1_:=am_ (hbox); have n2_:=am_ ((bs0_ hg HB.out:w.heap.size ≤ gb140)); have n3_:=am_ ((bs0_ hg HB.out:w.heap.size ≤ gb140)); clear HB; have HB:=n0_; have BK140:=n1_; have GW140:=n2_; have GE140:=n3_; clear n0_ n1_ n2_ n3_; clear hb hbox hg; have hcz10_0:w9.cell? ⟨gb140,0,none⟩ = some (.int .i64 a0_0):=(bc_ BK140.out 0).trans rfl; have hcz10_1:w9.cell? ⟨gb140,1,none⟩ = some (.int .i64 a0_1):=(bc_ BK140.out 1).trans rfl; have hcz10_2:w9.cell? ⟨gb140,2,none⟩ = some (.slice A0_2 l0_2.length c0_2):=(bc_ BK140.out 2).trans rfl; have hcz10_3:w9.cell? ⟨gb140,3,none⟩ = some (.slice A0_3 l0_3.length c0_3):=(bc_ BK140.out 3).trans rfl; have hfz10_0:=bz_ BK140.out 0; have hfz10_1:=bz_ BK140.out 1; have hfz10_2:=bz_ BK140.out 2; have hfz10_3:=bz_ BK140.out 3) | ((with_reducible refine gate_callee (f:=63) rfl ?_); refine goesL_ (some 7) rfl rfl Tryd.func63 (by kernel_rfl) rfl #[.int .i64 a0_0,.int .i64 a0_1] rfl ob_ ?_; (with_reducible refine (spec_fiGrid.calls a0_0 a0_1 true _ A2.out).mono ?_); rintro e w' ⟨rfl,⟨nd,rfl⟩⟩; refine ⟨_,rfl,?_⟩) | (go_at_call 127; (with_reducible refine (spec_fiRises.calls k _ _ l0_2 (wrap64 ((wrap64 (a0_0 * (wrap64 (a0_1 + 1)))) - 1)) false _ ?side1 ?side2 A4.out).mono ?_); (case side1 => repeat (first | exact (Kd.C_below HR0_2.out (bl1_ HB.out GE140.out)) | (with_reducible refine Kd.C_alloc ?_ _) | (with_reducible refine Kd.C_drewN ?_ _) | (with_reducible refine Kd.C_drew ?_))); (case side2 => exact HC0_2.out); rintro e w' ⟨rfl,⟨nd,rfl⟩⟩))
   go_ret
   exact ⟨er_,bl1_ HB.out GE140.out⟩
 ·replace c3:=Bool.eq_false_iff.mpr c3
  subst c3
  have H1:(some false) = some r:=by rw [if_neg (show ¬ (false = true) by decide)] at H; exact H
  clear H
  have H:=H1
  clear H1
  obtain rfl:=Option.some.inj H
  go_enter Tryd.func91,Tryd.ntmps91
  go_wp2_with (first | ((with_reducible refine gate_dst (N:=1) rfl ?_); refine boxE_ (N:=1) (cs:=#[.int .i64 a0_0,.int .i64 a0_1,.slice A0_2 l0_2.length c0_2,.slice A0_3 l0_3.length c0_3]) (t:=36) ?_; intro gb140 hg w11 hbox hb; have n0_:=am_ (below_step (bl0_ HB.out) hb); have n1_:=am_ (hbox); have n2_:=am_ ((bs0_ hg HB.out:w.heap.size ≤ gb140)); have n3_:=am_ ((bs0_ hg HB.out:w.heap.size ≤ gb140)); clear HB; have HB:=n0_; have BK140:=n1_; have GW140:=n2_; have GE140:=n3_; clear n0_ n1_ n2_ n3_; clear hb hbox hg; have hcz12_0:w11.cell? ⟨gb140,0,none⟩ = some (.int .i64 a0_0):=(bc_ BK140.out 0).trans rfl; have hcz12_1:w11.cell? ⟨gb140,1,none⟩ = some (.int .i64 a0_1):=(bc_ BK140.out 1).trans rfl; have hcz12_2:w11.cell? ⟨gb140,2,none⟩ = some (.slice A0_2 l0_2.length c0_2):=(bc_ BK140.out 2).trans rfl; have hcz12_3:w11.cell? ⟨gb140,3,none⟩ = some (.slice A0_3 l0_3.length c0_3):=(bc_ BK140.out 3).trans rfl; have hfz12_0:=bz_ BK140.out 0; have hfz12_1:=bz_ BK140.out 1; have hfz12_2:=bz_ BK140.out 2; have hfz12_3:=bz_ BK140.out 3) | ((with_reducible refine gate_callee (f:=63) rfl ?_); refine goesL_ (some 7) rfl rfl Tryd.func63 (by kernel_rfl) rfl #[.int .i64 a0_0,.int .i64 a0_1] rfl ob_ ?_; (with_reducible refine (spec_fiGrid.calls a0_0 a0_1 false _ A2.out).mono ?_); rintro e w' ⟨rfl,⟨nd,rfl⟩⟩; refine ⟨_,rfl,?_⟩))
  go_ret
  exact ⟨er_,bl1_ HB.out GE140.out⟩


def impl_within.f (a0:Int) (a1:Int) (a2:Int):Option (Bool):=if a1 ≤ a0 then (some (decide (a0 ≤ a2))) else (some false)
set_option maxHeartbeats 8000000 in
set_option maxRecDepth 100000 in
theorem impl_within.calls (a0:Int) (a1:Int) (a2:Int) (r:Bool) (w:World) (h:impl_within.f a0 a1 a2 = some r) :
    Calls Tryd.prog 100 #[.int .i64 a0,.int .i64 a1,.int .i64 a2] w fun e w' => e = .returned (.bool r) ∧ Drawn0 w w':=by
  have H:(if a1 ≤ a0 then (some (decide (a0 ≤ a2))) else (some false)) = some r:=h
  clear h
  by_cases c4:a1 ≤ a0
  · rw [if_pos c4] at H
    have c4b0:decide (a1 ≤ a0) = true:=decide_eq_true c4
    clear c4
    obtain rfl:=Option.some.inj H
    go_enter Tryd.func100,Tryd.ntmps100
    go_wp2
    go_ret
    exact ⟨by first | rfl | (simp; done) | (simp [*]; done),by repeat (first | exact Drawn0.refl _ | apply Drawn0.step)⟩
  · rw [if_neg c4] at H
    have c4b0:decide (a1 ≤ a0) = false:=decide_eq_false c4
    clear c4
    obtain rfl:=Option.some.inj H
    go_enter Tryd.func100,Tryd.ntmps100
    go_wp2
    go_ret
    exact ⟨by first | rfl | (simp; done) | (simp [*]; done),by repeat (first | exact Drawn0.refl _ | apply Drawn0.step)⟩


def impl_isGrid.f (a0:Int) (a1:Int):Option (Bool):=(impl_within.f a0 1 4).bind fun t171 => (if t171 = true then ((impl_within.f a1 1 4).bind fun t172 => (some t172)) else (some false))
set_option maxHeartbeats 8000000 in
set_option maxRecDepth 100000 in
theorem impl_isGrid.calls (a0:Int) (a1:Int) (r:Bool) (w:World) (h:impl_isGrid.f a0 a1 = some r) :
    Calls Tryd.prog 53 #[.int .i64 a0,.int .i64 a1] w fun e w' => e = .returned (.bool r) ∧ Drawn0 w w':=by
  have H:((impl_within.f a0 1 4).bind fun t171 => (if t171 = true then ((impl_within.f a1 1 4).bind fun t172 => (some t172)) else (some false))) = some r:=h
  clear h
  replace H:=bi_ H
  obtain ⟨t171,A30,H⟩:=H
  replace H:(if t171 = true then ((impl_within.f a1 1 4).bind fun t172 => (some t172)) else (some false)) = some r:=H
  have A3:=am_ A30
  clear A30
  by_cases c4:t171 = true
  · subst c4
    have H1:((impl_within.f a1 1 4).bind fun t172 => (some t172)) = some r:=by rw [if_pos rfl] at H; exact H
    clear H
    have H:=H1
    clear H1
    replace H:=bi_ H
    obtain ⟨t172,A50,H⟩:=H
    replace H:(some t172) = some r:=H
    have A5:=am_ A50
    clear A50
    obtain rfl:=Option.some.inj H
    go_enter Tryd.func53,Tryd.ntmps53
    go_wp2_with (first | ((with_reducible refine gate_callee (f:=100) rfl ?_); refine goesL_ (some 6) rfl rfl Tryd.func100 (by kernel_rfl) rfl #[.int .i64 a0,.int .i64 1,.int .i64 4] rfl ob_ ?_; (with_reducible refine (impl_within.calls a0 1 4 true _ A3.out).mono ?_); rintro e w' ⟨rfl,⟨nd,rfl⟩⟩; refine ⟨_,rfl,?_⟩) | (go_at_call 100; (with_reducible refine (impl_within.calls a1 1 4 t172 _ A5.out).mono ?_); rintro e w' ⟨rfl,⟨nd,rfl⟩⟩))
    go_ret
    exact ⟨by first | rfl | (simp; done) | (simp [*]; done),by repeat (first | exact Drawn0.refl _ | apply Drawn0.step)⟩
  · replace c4:=Bool.eq_false_iff.mpr c4
    subst c4
    have H1:(some false) = some r:=by rw [if_neg (show ¬ (false = true) by decide)] at H; exact H
    clear H
    have H:=H1
    clear H1
    obtain rfl:=Option.some.inj H
    go_enter Tryd.func53,Tryd.ntmps53
    go_wp2_with (first | ((with_reducible refine gate_callee (f:=100) rfl ?_); refine goesL_ (some 6) rfl rfl Tryd.func100 (by kernel_rfl) rfl #[.int .i64 a0,.int .i64 1,.int .i64 4] rfl ob_ ?_; (with_reducible refine (impl_within.calls a0 1 4 false _ A3.out).mono ?_); rintro e w' ⟨rfl,⟨nd,rfl⟩⟩; refine ⟨_,rfl,?_⟩))
    go_ret
    exact ⟨by first | rfl | (simp; done) | (simp [*]; done),by repeat (first | exact Drawn0.refl _ | apply Drawn0.step)⟩


def impl_Figure_grid.f (a0_0:Int) (a0_1:Int) (l0_2:List Int) (l0_3:List Int):Option (Int × Int):=some (a0_0,a0_1)
set_option maxHeartbeats 8000000 in
set_option maxRecDepth 100000 in
theorem impl_Figure_grid.calls (a0_0:Int) (a0_1:Int) (A0_2:Option Addr) (c0_2:Nat) (l0_2:List Int) (A0_3:Option Addr) (c0_3:Nat) (l0_3:List Int) (r1:Int) (r2:Int) (w:World) (hr0_2:Kd.C (Kd.int .i64) w A0_2 l0_2.length l0_2) (hc0_2:l0_2.length ≤ c0_2) (hr0_3:Kd.C (Kd.int .i64) w A0_3 l0_3.length l0_3) (hc0_3:l0_3.length ≤ c0_3) (h:impl_Figure_grid.f a0_0 a0_1 l0_2 l0_3 = some (r1,r2)) :
    Calls Tryd.prog 71 #[.agg #[.int .i64 a0_0,.int .i64 a0_1,.slice A0_2 l0_2.length c0_2,.slice A0_3 l0_3.length c0_3]] w fun e w' => e = .returned (.agg #[.int .i64 r1,.int .i64 r2]) ∧ Below w.heap.size w w':=by
  have hu36:=Tryd.underlying36
  have hu75:=Tryd.underlying75
  have HR0_2:=am_ hr0_2
  have HC0_2:=am_ hc0_2
  clear hr0_2 hc0_2
  have HR0_3:=am_ hr0_3
  have HC0_3:=am_ hc0_3
  clear hr0_3 hc0_3
  have HB:=am_ (Below.refl w.heap.size w)
  have H:(some (a0_0,a0_1)) = some (r1,r2):=h
  clear h
  simp only [Option.some.injEq,Prod.mk.injEq] at H
  obtain ⟨rfl,rfl⟩:=H
  go_enter Tryd.func71,Tryd.ntmps71
  go_wp2_with (first | ((with_reducible refine gate_dst (N:=1) rfl ?_); refine boxE_ (N:=1) (cs:=#[.int .i64 a0_0,.int .i64 a0_1,.slice A0_2 l0_2.length c0_2,.slice A0_3 l0_3.length c0_3]) (t:=36) ?_; intro gb173 hg w2 hbox hb; have n0_:=am_ (below_step (bl0_ HB.out) hb); have n1_:=am_ (hbox); have n2_:=am_ ((bs0_ hg HB.out:w.heap.size ≤ gb173)); have n3_:=am_ ((bs0_ hg HB.out:w.heap.size ≤ gb173)); clear HB; have HB:=n0_; have BK173:=n1_; have GW173:=n2_; have GE173:=n3_; clear n0_ n1_ n2_ n3_; clear hb hbox hg) | ((with_reducible refine gate_dst (N:=2) rfl ?_); refine boxE_ (N:=2) (cs:=#[.int .i64 0,.int .i64 0]) (t:=75) ?_; intro gb174 hg w3 hbox hb; have n0_:=am_ (bb_ BK173.out hb); have n1_:=am_ (below_step (bl1_ HB.out GE173.out) hb); have n2_:=am_ (hbox); have n3_:=am_ ((bs1_ hg HB.out GE173.out:w.heap.size ≤ gb174)); have n4_:=am_ ((bs1_ hg HB.out GE173.out:w.heap.size ≤ gb174)); have n5_:=am_ ((nl_ hg BK173.out:gb173 ≠ gb174)); have n6_:=am_ ((ng_ hg BK173.out:gb174 ≠ gb173)); clear BK173; clear HB; have BK173:=n0_; have HB:=n1_; have BK174:=n2_; have GW174:=n3_; have GE174:=n4_; have NB173_174:=n5_; have NB174_173:=n6_; clear n0_ n1_ n2_ n3_ n4_ n5_ n6_; clear hb hbox hg; have hnb4:=NB173_174.out; have hnc4:=NB174_173.out; have hcz5_0:w3.cell? ⟨gb173,0,none⟩ = some (.int .i64 a0_0):=(bc_ BK173.out 0).trans rfl; have hcz5_1:w3.cell? ⟨gb173,1,none⟩ = some (.int .i64 a0_1):=(bc_ BK173.out 1).trans rfl; have hcz5_2:w3.cell? ⟨gb173,2,none⟩ = some (.slice A0_2 l0_2.length c0_2):=(bc_ BK173.out 2).trans rfl; have hcz5_3:w3.cell? ⟨gb173,3,none⟩ = some (.slice A0_3 l0_3.length c0_3):=(bc_ BK173.out 3).trans rfl; have hfz5_0:=bz_ BK173.out 0; have hfz5_1:=bz_ BK173.out 1; have hfz5_2:=bz_ BK173.out 2; have hfz5_3:=bz_ BK173.out 3; have hcz6_0:w3.cell? ⟨gb174,0,none⟩ = some (.int .i64 0):=(bc_ BK174.out 0).trans rfl; have hcz6_1:w3.cell? ⟨gb174,1,none⟩ = some (.int .i64 0):=(bc_ BK174.out 1).trans rfl; have hfz6_0:=bz_ BK174.out 0; have hfz6_1:=bz_ BK174.out 1))
  refine bodyPost_ret (results_cell_row rfl _ _ gb174 75 #[.int .i64 a0_0,.int .i64 a0_1] (0,0) _ rfl (by (with_reducible repeat (first | refine blk_drewN ?_ _ | refine blk_drew ?_ | refine blk_alloc ?_ _)); refine blk_put (cs:=#[.int .i64 a0_0,.int .i64 0]) ?_ 1 _ rfl; (with_reducible repeat (first | refine blk_drewN ?_ _ | refine blk_drew ?_ | refine blk_alloc ?_ _)); refine blk_put (cs:=#[.int .i64 0,.int .i64 0]) ?_ 0 _ rfl; (with_reducible repeat (first | refine blk_drewN ?_ _ | refine blk_drew ?_ | refine blk_alloc ?_ _)); exact BK174.out) Tryd.underlying75 rfl (by kernel_rfl)) rfl ?_
  exact ⟨er_,bl2_ HB.out GE173.out GE174.out⟩


def impl_isRising.l0:Nat → List Int → Int → Option (Bool)
  | 0,_,_ => none
  | k + 1,x0,x3 => if x3 < (x0.length:Int) then (if 0 ≤ x3 then (if 0 ≤ (wrap64 (x3 - 1)) then (if (wrap64 (x3 - 1)) < (x0.length:Int) then (if (rd x0 x3) ≤ (rd x0 (wrap64 (x3 - 1))) then (some false) else (impl_isRising.l0 k x0 (wrap64 (x3 + 1)))) else (none)) else (none)) else (none)) else (some true)
def impl_isRising.f (k:Nat) (l0:List Int):Option (Bool):=impl_isRising.l0 k l0 1
theorem impl_isRising.mono_l:∀ k,(∀ y0 y1,LeO (impl_isRising.l0 k y0 y1) (impl_isRising.l0 (k + 1) y0 y1))
  | 0 => fun _ _ r h => by simp [impl_isRising.l0] at h
  | k + 1 => by
    have ih0:=impl_isRising.mono_l k
    · intro y0 y1
      unfold impl_isRising.l0
      repeat' first | (with_reducible first | exact ih0 _ _ | exact LeO.refl _ | exact LeO.none _ | refine LeO.ite ?_ ?_ | refine LeO.bind ?_ (fun _ => ?_)) | exact ih0 _ _
theorem impl_isRising.mono:∀ a0 k,LeO (impl_isRising.f k a0) (impl_isRising.f (k + 1) a0):=by
  intro a0 k
  have ih0:=impl_isRising.mono_l k
  unfold impl_isRising.f
  repeat' first | (with_reducible first | exact ih0 _ _ | exact LeO.refl _ | exact LeO.none _ | refine LeO.ite ?_ ?_ | refine LeO.bind ?_ (fun _ => ?_)) | exact ih0 _ _
set_option maxHeartbeats 8000000 in
set_option maxRecDepth 100000 in
theorem impl_isRising.calls (k:Nat) (A0:Option Addr) (c0:Nat) (l0:List Int) (r:Bool) (w:World) (hr0:Kd.C (Kd.int .i64) w A0 l0.length l0) (hc0:l0.length ≤ c0) (h:impl_isRising.f k l0 = some r) :
    Calls Tryd.prog 81 #[.slice A0 l0.length c0] w fun e w' => e = .returned (.bool r) ∧ Drawn0 w w':=by
  have HR0:=am_ hr0
  have HC0:=am_ hc0
  clear hr0 hc0
  have H:(impl_isRising.l0 k l0 1) = some r:=h
  clear h
  have H':=am_ H
  clear H
  go_enter Tryd.func81,Tryd.ntmps81
  go_wp2
  repeat (go_quiet (fail); try go_wp2)
  go_loopg [3] k (fun kq v3 w' => ∃ (x3_1:Int),v3 = .int .i64 x3_1 ∧ Aside0 (impl_isRising.l0 kq l0 x3_1 = some r) ∧ Aside0 (kq ≤ k) ∧ Drawn0 w w')
  case atStart => exact ⟨(1),rs_,H',⟨Nat.le_refl _⟩,by repeat (first | exact Drawn0.refl _ | apply Drawn0.step)⟩
  case round =>
    clear H'
    obtain ⟨x3_1,rfl,HA,HK1,⟨m1,rfl⟩⟩:=hrel
    cases gk with
    | zero => exact absurd HA.out (by simp [impl_isRising.l0])
    | succ k1 =>
      have H:=HA.out
      clear HA
      simp only [impl_isRising.l0] at H
      by_cases c2:x3_1 < (l0.length:Int)
      · rw [if_pos c2] at H
        have c2b0:decide (x3_1 < (l0.length:Int)) = true:=decide_eq_true c2
        clear c2
        by_cases c3:0 ≤ x3_1
        · rw [if_pos c3] at H
          have c3b0:decide (0 ≤ x3_1) = true:=decide_eq_true c3
          clear c3
          obtain ⟨ji4,hji4⟩:∃ j_:Int,(wrap64 (x3_1 - 1)) = j_:=⟨_,rfl⟩
          replace H:(if 0 ≤ (ji4) then (if (ji4) < (l0.length:Int) then (if (rd l0 x3_1) ≤ (rd l0 (ji4)) then (some false) else (impl_isRising.l0 k1 l0 (wrap64 (x3_1 + 1)))) else (none)) else (none)) = some r:=by first | (rw [hji4] at H; exact H) | (simp only [hji4] at H ⊢; exact H)
          have hji4w:(IntKind.i64.wrap (x3_1 - 1)) = ji4:=(i64_w _).trans hji4
          by_cases c5:0 ≤ (ji4)
          · rw [if_pos c5] at H
            have c5b0:decide (0 ≤ (ji4)) = true:=decide_eq_true c5
            clear c5
            by_cases c6:(ji4) < (l0.length:Int)
            · rw [if_pos c6] at H
              have c6b0:decide ((ji4) < (l0.length:Int)) = true:=decide_eq_true c6
              clear c6
              by_cases c7:(rd l0 x3_1) ≤ (rd l0 (ji4))
              · rw [if_pos c7] at H
                have c7b0:decide ((rd l0 x3_1) ≤ (rd l0 (ji4))) = true:=decide_eq_true c7
                clear c7
                obtain rfl:=Option.some.inj H
                have p175:0 ≤ (x3_1:Int):=of_decide_eq_true as_
                have q175:x3_1 < (l0.length:Int):=of_decide_eq_true as_
                obtain ⟨ad175,e175,hx175_0⟩:=Kd.at_int HR0.out x3_1 p175 q175
                cases e175
                replace p175:=eq_true p175
                replace q175:=eq_true q175
                have p176:0 ≤ ((ji4):Int):=of_decide_eq_true as_
                have q176:(ji4) < (l0.length:Int):=of_decide_eq_true as_
                obtain ⟨ad176,e176,hx176_0⟩:=Kd.at_int HR0.out (ji4) p176 q176
                obtain rfl:ad175 = ad176:=(by injection e176)
                replace p176:=eq_true p176
                replace q176:=eq_true q176
                go_wp2
                repeat (go_quiet (fail); try go_wp2)
                go_ret
                exact ⟨by first | rfl | (simp; done) | (simp only [← hji4] <;> (first | rfl | simp)) | (simp [*]; done),by repeat (first | exact Drawn0.refl _ | apply Drawn0.step)⟩
              · rw [if_neg c7] at H
                have c7b0:decide ((rd l0 x3_1) ≤ (rd l0 (ji4))) = false:=decide_eq_false c7
                clear c7
                have H':=am_ H
                clear H
                have p175:0 ≤ (x3_1:Int):=of_decide_eq_true as_
                have q175:x3_1 < (l0.length:Int):=of_decide_eq_true as_
                obtain ⟨ad175,e175,hx175_0⟩:=Kd.at_int HR0.out x3_1 p175 q175
                cases e175
                replace p175:=eq_true p175
                replace q175:=eq_true q175
                have p176:0 ≤ ((ji4):Int):=of_decide_eq_true as_
                have q176:(ji4) < (l0.length:Int):=of_decide_eq_true as_
                obtain ⟨ad176,e176,hx176_0⟩:=Kd.at_int HR0.out (ji4) p176 q176
                obtain rfl:ad175 = ad176:=(by injection e176)
                replace p176:=eq_true p176
                replace q176:=eq_true q176
                go_wp2
                repeat (go_quiet (fail); try go_wp2)
                go_roundg k1
                case measure => have:=HK1.out; omega
                case rel => exact ⟨(wrap64 (x3_1 + 1)),rs_,H',⟨by have:=HK1.out; omega⟩,by repeat (first | exact Drawn0.refl _ | apply Drawn0.step)⟩
            · rw [if_neg c6] at H
              exact absurd H (by simp)
          · rw [if_neg c5] at H
            exact absurd H (by simp)
        · rw [if_neg c3] at H
          exact absurd H (by simp)
      · rw [if_neg c2] at H
        have c2b0:decide (x3_1 < (l0.length:Int)) = false:=decide_eq_false c2
        clear c2
        obtain rfl:=Option.some.inj H
        go_wp2
        repeat (go_quiet (fail); try go_wp2)
        go_ret
        exact ⟨by first | rfl | (simp; done) | (simp [*]; done),by repeat (first | exact Drawn0.refl _ | apply Drawn0.step)⟩


set_option maxHeartbeats 2000000 in
theorem containsI_any (g:Nat) (lb:Array Value) (p:Int → Bool) (eg:∀ args w,(callFunc g args).run Tryd.prog w = .ok (.enter g args) w) (A0:Option Addr) (c0:Nat) (l0:List Int) (w:World) (hr0:Kd.C (Kd.int .i64) w A0 l0.length l0) (hp:PredI g lb p w) :
    Calls Tryd.prog 124 #[.slice A0 l0.length c0,.func (.func g) #[] lb] w fun e w' => e = .returned (.bool (l0.any p)) ∧ Below w.heap.size w w':=by
  rw [← idxFrom_ge p l0 0]
  have h:=indexI_any g lb p eg A0 c0 l0 w hr0 hp
  clear hr0 hp
  go_enter Tryd.func124,Tryd.ntmps124
  go_wp2_with (go_at_call 153; refine h.mono ?_; rintro e w' ⟨rfl,hb'⟩)
  go_ret
  exact ⟨rfl,hb'⟩


def impl_areWithin.f (l0:List Int) (a1:Int) (a2:Int):Option Bool:=some (l0.all fun x => decide (a1 ≤ x) && decide (x ≤ a2))
theorem areWithin_lit (a1 a2 x:Int) (B1 B2:Nat) (W:World) (h1:W.cell? ⟨B1,0,none⟩ = some (.int .i64 a1)) (h2:W.cell? ⟨B2,0,none⟩ = some (.int .i64 a2)) :
    Calls Tryd.prog 125 #[.int .i64 x,.pointer (some ⟨B1,0,none⟩),.pointer (some ⟨B2,0,none⟩)] W fun e w' => e = .returned (.bool (!(decide (a1 ≤ x) && decide (x ≤ a2)))) ∧ Below W.heap.size W w':=by
  have hw:impl_within.f x a1 a2 = some (decide (a1 ≤ x) && decide (x ≤ a2)):=by
    unfold impl_within.f
    by_cases h:a1 ≤ x <;> simp [h]
  have HW:=am_ hw
  clear hw
  generalize (decide (a1 ≤ x) && decide (x ≤ a2)) = r at HW ⊢
  go_enter Tryd.func125,Tryd.ntmps125
  go_wp2_with (go_at_call 100; refine (impl_within.calls _ _ _ r _ HW.out).mono ?_; rintro e w' ⟨rfl,⟨nd,rfl⟩⟩)
  go_ret
  exact ⟨by first | rfl | simp,pw_below_drewN (Below.refl _ _) nd⟩
theorem impl_areWithin.calls (A0:Option Addr) (c0:Nat) (l0:List Int) (a1:Int) (a2:Int) (r:Bool) (w:World) (hr0:Kd.C (Kd.int .i64) w A0 l0.length l0) (hc0:l0.length ≤ c0) (h:impl_areWithin.f l0 a1 a2 = some r) :
    Calls Tryd.prog 82 #[.slice A0 l0.length c0,.int .i64 a1,.int .i64 a2] w fun e w' => e = .returned (.bool r) ∧ Below w.heap.size w w':=by
  obtain rfl:=Option.some.inj h
  clear h
  have eg:∀ args w,(callFunc 125 args).run Tryd.prog w = .ok (.enter 125 args) w:=Go.Proofs.enters_of Tryd.func125 (by kernel_rfl) rfl
  have hcon:∀ W:World,Aside0 (Below w.heap.size w W) → W.cell? ⟨w.heap.size,0,none⟩ = some (.int .i64 a1) → W.cell? ⟨w.heap.size + 1,0,none⟩ = some (.int .i64 a2) → w.heap.size + 1 < W.heap.size → Calls Tryd.prog 124 #[.slice A0 l0.length c0,.func (.func 125) #[] #[.pointer (some ⟨w.heap.size,0,none⟩),.pointer (some ⟨w.heap.size + 1,0,none⟩)]] W fun e w' => e = .returned (.bool (!(l0.all fun x => decide (a1 ≤ x) && decide (x ≤ a2)))) ∧ Below W.heap.size W w':=fun W hB h1 h2 hs => by
    have hp:PredI 125 #[.pointer (some ⟨w.heap.size,0,none⟩),.pointer (some ⟨w.heap.size + 1,0,none⟩)] (fun x => !(decide (a1 ≤ x) && decide (x ≤ a2))) W:=fun W2 x hb =>
      areWithin_lit a1 a2 x _ _ W2 ((hb.cell (p:=⟨w.heap.size,0,none⟩) (by show w.heap.size < _; omega)).trans h1) ((hb.cell (p:=⟨w.heap.size + 1,0,none⟩) hs).trans h2)
    have:=containsI_any _ _ _ eg A0 c0 l0 W (Kd.C_below hr0 hB.out) hp
    rw [show (l0.any fun x => !(decide (a1 ≤ x) && decide (x ≤ a2))) = !(l0.all fun x => decide (a1 ≤ x) && decide (x ≤ a2)) by rw [List.not_all_eq_any_not]] at this
    exact this
  clear hr0 hc0 eg
  have HC:=am_ hcon
  clear hcon
  have hmf:∀ (fn:Fn) (first cap:Array Value) (w:World),(Instr.makeFunc fn first cap).run Tryd.prog w = .ok (.func fn first cap) w:=fun _ _ _ _ => rfl
  generalize (l0.all fun x => decide (a1 ≤ x) && decide (x ≤ a2)) = r at HC
  go_enter Tryd.func82,Tryd.ntmps82
  go_wp2_with (go_at_call 124; refine (HC.out _ ⟨((Below.refl _ _).alloc (Nat.le_refl _) _).alloc (by simp) _⟩ (by simp) (by simp) (by simp)).mono ?_; rintro e w' ⟨rfl,hb'⟩)
  go_ret
  exact ⟨by simp,(((Below.refl _ _).alloc (Nat.le_refl _) _).alloc (by simp) _).trans (hb'.mono (by simp; omega))⟩


def impl_grid_levels.f (a0_0:Int) (a0_1:Int):Option (Int):=some (wrap64 (a0_0 * (wrap64 (a0_1 + 1))))
set_option maxHeartbeats 8000000 in
set_option maxRecDepth 100000 in
theorem impl_grid_levels.calls (a0_0:Int) (a0_1:Int) (r:Int) (w:World) (h:impl_grid_levels.f a0_0 a0_1 = some r) :
    Calls Tryd.prog 101 #[.agg #[.int .i64 a0_0,.int .i64 a0_1]] w fun e w' => e = .returned (.int .i64 r) ∧ Below w.heap.size w w':=by
  have hu75:=Tryd.underlying75
  have HB:=am_ (Below.refl w.heap.size w)
  have H:(some (wrap64 (a0_0 * (wrap64 (a0_1 + 1))))) = some r:=h
  clear h
  obtain rfl:=Option.some.inj H
  go_enter Tryd.func101,Tryd.ntmps101
  go_wp2_with (first | ((with_reducible refine gate_dst (N:=1) rfl ?_); refine boxE_ (N:=1) (cs:=#[.int .i64 a0_0,.int .i64 a0_1]) (t:=75) ?_; intro gb177 hg w2 hbox hb; have n0_:=am_ (below_step (bl0_ HB.out) hb); have n1_:=am_ (hbox); have n2_:=am_ ((bs0_ hg HB.out:w.heap.size ≤ gb177)); have n3_:=am_ ((bs0_ hg HB.out:w.heap.size ≤ gb177)); clear HB; have HB:=n0_; have BK177:=n1_; have GW177:=n2_; have GE177:=n3_; clear n0_ n1_ n2_ n3_; clear hb hbox hg; have hcz3_0:w2.cell? ⟨gb177,0,none⟩ = some (.int .i64 a0_0):=(bc_ BK177.out 0).trans rfl; have hcz3_1:w2.cell? ⟨gb177,1,none⟩ = some (.int .i64 a0_1):=(bc_ BK177.out 1).trans rfl; have hfz3_0:=bz_ BK177.out 0; have hfz3_1:=bz_ BK177.out 1))
  go_ret
  exact ⟨er_,bl1_ HB.out GE177.out⟩


def impl_grid_uprights.f (a0_0:Int) (a0_1:Int):Option (Int):=some (wrap64 (a0_1 * (wrap64 (a0_0 + 1))))
set_option maxHeartbeats 8000000 in
set_option maxRecDepth 100000 in
theorem impl_grid_uprights.calls (a0_0:Int) (a0_1:Int) (r:Int) (w:World) (h:impl_grid_uprights.f a0_0 a0_1 = some r) :
    Calls Tryd.prog 119 #[.agg #[.int .i64 a0_0,.int .i64 a0_1]] w fun e w' => e = .returned (.int .i64 r) ∧ Below w.heap.size w w':=by
  have hu75:=Tryd.underlying75
  have HB:=am_ (Below.refl w.heap.size w)
  have H:(some (wrap64 (a0_1 * (wrap64 (a0_0 + 1))))) = some r:=h
  clear h
  obtain rfl:=Option.some.inj H
  go_enter Tryd.func119,Tryd.ntmps119
  go_wp2_with (first | ((with_reducible refine gate_dst (N:=1) rfl ?_); refine boxE_ (N:=1) (cs:=#[.int .i64 a0_0,.int .i64 a0_1]) (t:=75) ?_; intro gb178 hg w2 hbox hb; have n0_:=am_ (below_step (bl0_ HB.out) hb); have n1_:=am_ (hbox); have n2_:=am_ ((bs0_ hg HB.out:w.heap.size ≤ gb178)); have n3_:=am_ ((bs0_ hg HB.out:w.heap.size ≤ gb178)); clear HB; have HB:=n0_; have BK178:=n1_; have GW178:=n2_; have GE178:=n3_; clear n0_ n1_ n2_ n3_; clear hb hbox hg; have hcz3_0:w2.cell? ⟨gb178,0,none⟩ = some (.int .i64 a0_0):=(bc_ BK178.out 0).trans rfl; have hcz3_1:w2.cell? ⟨gb178,1,none⟩ = some (.int .i64 a0_1):=(bc_ BK178.out 1).trans rfl; have hfz3_0:=bz_ BK178.out 0; have hfz3_1:=bz_ BK178.out 1))
  go_ret
  exact ⟨er_,bl1_ HB.out GE178.out⟩

end Go.Proofs.YtehjfaddhmdicaaDoor.P
