/- For every input the law FnExactAllTakes answers true: the program's AllTakes tells what the reference's AllTakes tells; no condition. (part 1 of the proof; the words of the kit's print tool and the texts of this seat, merged by a program) -/
import Derived.ArgAppend
import Derived.Below
import Derived.BigQuiet
import Derived.Deep.AppendLies
import Derived.Deep.CutBlock
import Derived.Deep.DeepCutAuto
import Derived.Deep.Draws
import Derived.Deep.LoopGhost
import Derived.Deep.OwnRows
import Derived.Deep.QuietTactic
import Derived.Deep.RegionHeld3
import Derived.DeepKeys4
import Derived.IntWalk
import Derived.KernelRfl
import Derived.Laws.BitsLemmas
import Derived.Laws.BytesArg
import Derived.Laws.IdiomCopy
import Derived.Laws.MakeOwn
import Derived.Laws.OwnMore
import Derived.Laws.Rows
import Derived.Laws.Slices
import Derived.Lib.AppendStr
import Derived.Lib.ConvBytes
import Derived.Lib.SlBytesConst
import Derived.Maps.AppendAt
import Derived.Maps.OwnSet
import Derived.OrdersHeld
import Derived.OwnWalk
import Derived.RowKit
import Derived.RowKit3
import Derived.Shelf.Abstract
import Derived.Tactics
import Derived.Test.YtehjfaddhmdicaaGreatDoorProg
import Derived.WalkKit
import Derived.WideLaws
import Derived.Test.YtehjfaddhmdicaaGreatDoorMFC0
namespace Go.Proofs.YtehjfaddhmdicaaGreatDoor.P
open Go.RowKit Go.Proofs.YtehjfaddhmdicaaGreatDoorW.PrintWords Go.Proofs.YtehjfaddhmdicaaGreatDoorW.PrintLast Go.Proofs.YtehjfaddhmdicaaGreatDoorW.PrintMore
attribute [local go_sem] max2_int min2_int max_two min_two max_three min_three max_four min_four   -- for this text's walks alone
set_option linter.unusedVariables false
set_option linter.unusedSimpArgs false



def errW:Option Int → Value
 | none => .nilIface
 | some c => .iface 0 (.int .i64 c)
theorem errW_none:errW none = .nilIface:=rfl
theorem errW_some (c:Int):errW (some c) = .iface 0 (.int .i64 c):=rfl

theorem info3:(Tryz.prog.info? 3).map (fun i => (i.zero,i.size,i.bytes)) = some (some (.int .i64 0),1,8):=by kernel_rfl
theorem info85:(Tryz.prog.info? 85).map (fun i => (i.zero,i.size,i.bytes)) = some (some (.agg #[(.int .i64 0),(.int .i64 0),(.int .i64 0),(.int .i64 0)]),4,32):=by kernel_rfl
theorem info100:(Tryz.prog.info? 100).map (fun i => (i.zero,i.size,i.bytes)) = some (some (.agg #[(.int .i64 0),(.int .i64 0),(.int .i64 0),(.int .u64 0)]),4,32):=by kernel_rfl
structure S85 where
 f0:Int
 f1:Int
 f2:Int
 f3:Int
def z85:S85:=⟨(0:Int),(0:Int),(0:Int),(0:Int)⟩
def k85:Kd S85:=Kd.iso (Kd.pair (Kd.int .i64) (Kd.pair (Kd.int .i64) (Kd.pair (Kd.int .i64) (Kd.int .i64)))) (fun x:S85 => (x.f0,x.f1,x.f2,x.f3))
theorem k85_open {w:World} {x:S85} {cs:List Value} (h:k85.K w x cs):cs = [.int .i64 x.f0,.int .i64 x.f1,.int .i64 x.f2,.int .i64 x.f3]:=by
 obtain ⟨_,_,rfl,rfl,⟨_,_,rfl,rfl,⟨_,_,rfl,rfl,rfl⟩⟩⟩:=h
 exact rfl
theorem k85_mkM (w:World) (base:Nat) (ok:Nat → Prop) (x:S85) :k85.M w base ok x [.int .i64 x.f0,.int .i64 x.f1,.int .i64 x.f2,.int .i64 x.f3]:=⟨[.int .i64 x.f0],[.int .i64 x.f1,.int .i64 x.f2,.int .i64 x.f3],rfl,rfl,⟨[.int .i64 x.f1],[.int .i64 x.f2,.int .i64 x.f3],rfl,rfl,⟨[.int .i64 x.f2],[.int .i64 x.f3],rfl,rfl,rfl⟩⟩⟩
def rd_T85 (xs:List S85) (i:Int):S85:=xs.getD i.toNat z85
theorem at_T85 {w:World} {A:Option Addr} {n:Nat} {xs:List S85} (h:Kd.C k85 w A n xs) (i:Int) (h0:0 ≤ i) (h1:i < n):∃ ad ,A = some ad ∧ w.cell? (ad.add (i.toNat * 4)) = some (.int .i64 (rd_T85 xs i).f0) ∧ w.cell? ⟨(ad.add (i.toNat * 4)).block,(ad.add (i.toNat * 4)).off + 1,none⟩ = some (.int .i64 (rd_T85 xs i).f1) ∧ w.cell? ⟨(ad.add (i.toNat * 4)).block,(ad.add (i.toNat * 4)).off + 2,none⟩ = some (.int .i64 (rd_T85 xs i).f2) ∧ w.cell? ⟨(ad.add (i.toNat * 4)).block,(ad.add (i.toNat * 4)).off + 3,none⟩ = some (.int .i64 (rd_T85 xs i).f3):=by
 obtain ⟨ad,c,e,_,hK,hc0⟩:=Kd.C_get h z85 i h0 h1
 have hc:∀ j u,c[j]? = some u → w.cell? (ad.add (i.toNat * 4 + j)) = some u:=hc0
 obtain rfl:=k85_open hK
 exact ⟨ad,e,hc 0 _ rfl,by rw [← add_field _ _ 1 (by omega)]; exact hc 1 _ rfl,by rw [← add_field _ _ 2 (by omega)]; exact hc 2 _ rfl,by rw [← add_field _ _ 3 (by omega)]; exact hc 3 _ rfl⟩

structure S26 where
 f0:Int
 f1:Int
 f2:(List Int)
 f3:(List Int)
def z26:S26:=⟨(0:Int),(0:Int),([]:List Int),([]:List Int)⟩
def k26:Kd S26:=Kd.iso (Kd.pair (Kd.int .i64) (Kd.pair (Kd.int .i64) (Kd.pair (Kd.slice 3 (Kd.int .i64)) (Kd.slice 3 (Kd.int .i64))))) (fun x:S26 => (x.f0,x.f1,x.f2,x.f3))
theorem k26_open {w:World} {x:S26} {cs:List Value} (h:k26.K w x cs):∃ A2 c2 A3 c3,cs = [.int .i64 x.f0,.int .i64 x.f1,.slice A2 x.f2.length c2,.slice A3 x.f3.length c3] ∧ x.f2.length ≤ c2 ∧ (Kd.int .i64).C w A2 x.f2.length x.f2 ∧ x.f3.length ≤ c3 ∧ (Kd.int .i64).C w A3 x.f3.length x.f3:=by
 obtain ⟨_,_,rfl,rfl,⟨_,_,rfl,rfl,⟨_,_,rfl,⟨A2,c2,rfl,l2,g2⟩,⟨A3,c3,rfl,l3,g3⟩⟩⟩⟩:=h
 exact ⟨A2,c2,A3,c3,rfl,l2,g2,l3,g3⟩
theorem k26_openM {w:World} {base:Nat} {ok:Nat → Prop} {x:S26} {cs:List Value} (h:k26.M w base ok x cs):∃ v2 v3,cs = [.int .i64 x.f0,.int .i64 x.f1,v2,v3] ∧ (Kd.int .i64).R 3 w base ok v2 x.f2 ∧ (Kd.int .i64).R 3 w base ok v3 x.f3:=by
 obtain ⟨_,_,rfl,rfl,⟨_,_,rfl,rfl,⟨_,_,rfl,⟨v2,rfl,g2⟩,⟨v3,rfl,g3⟩⟩⟩⟩:=h
 exact ⟨v2,v3,rfl,g2,g3⟩
theorem k26_mkM (w:World) (base:Nat) (ok:Nat → Prop) (x:S26) {v2:Value} (g2:(Kd.int .i64).R 3 w base ok v2 x.f2) {v3:Value} (g3:(Kd.int .i64).R 3 w base ok v3 x.f3):k26.M w base ok x [.int .i64 x.f0,.int .i64 x.f1,v2,v3]:=⟨[.int .i64 x.f0],[.int .i64 x.f1,v2,v3],rfl,rfl,⟨[.int .i64 x.f1],[v2,v3],rfl,rfl,⟨[v2],[v3],rfl,⟨v2,rfl,g2⟩,⟨v3,rfl,g3⟩⟩⟩⟩
def rd_T26 (xs:List S26) (i:Int):S26:=xs.getD i.toNat z26
theorem at_T26 {w:World} {A:Option Addr} {n:Nat} {xs:List S26} (h:Kd.C k26 w A n xs) (i:Int) (h0:0 ≤ i) (h1:i < n):∃ ad A2 c2 A3 c3,A = some ad ∧ w.cell? (ad.add (i.toNat * 4)) = some (.int .i64 (rd_T26 xs i).f0) ∧ w.cell? ⟨(ad.add (i.toNat * 4)).block,(ad.add (i.toNat * 4)).off + 1,none⟩ = some (.int .i64 (rd_T26 xs i).f1) ∧ w.cell? ⟨(ad.add (i.toNat * 4)).block,(ad.add (i.toNat * 4)).off + 2,none⟩ = some (.slice A2 (rd_T26 xs i).f2.length c2) ∧ w.cell? ⟨(ad.add (i.toNat * 4)).block,(ad.add (i.toNat * 4)).off + 3,none⟩ = some (.slice A3 (rd_T26 xs i).f3.length c3) ∧ (rd_T26 xs i).f2.length ≤ c2 ∧ (Kd.int .i64).C w A2 (rd_T26 xs i).f2.length (rd_T26 xs i).f2 ∧ (rd_T26 xs i).f3.length ≤ c3 ∧ (Kd.int .i64).C w A3 (rd_T26 xs i).f3.length (rd_T26 xs i).f3:=by
 obtain ⟨ad,c,e,_,hK,hc0⟩:=Kd.C_get h z26 i h0 h1
 have hc:∀ j u,c[j]? = some u → w.cell? (ad.add (i.toNat * 4 + j)) = some u:=hc0
 obtain ⟨A2,c2,A3,c3,rfl,l2,g2,l3,g3⟩:=k26_open hK
 exact ⟨ad,A2,c2,A3,c3,e,hc 0 _ rfl,by rw [← add_field _ _ 1 (by omega)]; exact hc 1 _ rfl,by rw [← add_field _ _ 2 (by omega)]; exact hc 2 _ rfl,by rw [← add_field _ _ 3 (by omega)]; exact hc 3 _ rfl,l2,g2,l3,g3⟩

structure S100 where
 f0:Int
 f1:Int
 f2:Int
 f3:Int
def z100:S100:=⟨(0:Int),(0:Int),(0:Int),(0:Int)⟩
def k100:Kd S100:=Kd.iso (Kd.pair (Kd.int .i64) (Kd.pair (Kd.int .i64) (Kd.pair (Kd.int .i64) (Kd.int .u64)))) (fun x:S100 => (x.f0,x.f1,x.f2,x.f3))
theorem k100_open {w:World} {x:S100} {cs:List Value} (h:k100.K w x cs):cs = [.int .i64 x.f0,.int .i64 x.f1,.int .i64 x.f2,.int .u64 x.f3]:=by
 obtain ⟨_,_,rfl,rfl,⟨_,_,rfl,rfl,⟨_,_,rfl,rfl,rfl⟩⟩⟩:=h
 exact rfl
theorem k100_mkM (w:World) (base:Nat) (ok:Nat → Prop) (x:S100) :k100.M w base ok x [.int .i64 x.f0,.int .i64 x.f1,.int .i64 x.f2,.int .u64 x.f3]:=⟨[.int .i64 x.f0],[.int .i64 x.f1,.int .i64 x.f2,.int .u64 x.f3],rfl,rfl,⟨[.int .i64 x.f1],[.int .i64 x.f2,.int .u64 x.f3],rfl,rfl,⟨[.int .i64 x.f2],[.int .u64 x.f3],rfl,rfl,rfl⟩⟩⟩
def rd_T100 (xs:List S100) (i:Int):S100:=xs.getD i.toNat z100
theorem at_T100 {w:World} {A:Option Addr} {n:Nat} {xs:List S100} (h:Kd.C k100 w A n xs) (i:Int) (h0:0 ≤ i) (h1:i < n):∃ ad ,A = some ad ∧ w.cell? (ad.add (i.toNat * 4)) = some (.int .i64 (rd_T100 xs i).f0) ∧ w.cell? ⟨(ad.add (i.toNat * 4)).block,(ad.add (i.toNat * 4)).off + 1,none⟩ = some (.int .i64 (rd_T100 xs i).f1) ∧ w.cell? ⟨(ad.add (i.toNat * 4)).block,(ad.add (i.toNat * 4)).off + 2,none⟩ = some (.int .i64 (rd_T100 xs i).f2) ∧ w.cell? ⟨(ad.add (i.toNat * 4)).block,(ad.add (i.toNat * 4)).off + 3,none⟩ = some (.int .u64 (rd_T100 xs i).f3):=by
 obtain ⟨ad,c,e,_,hK,hc0⟩:=Kd.C_get h z100 i h0 h1
 have hc:∀ j u,c[j]? = some u → w.cell? (ad.add (i.toNat * 4 + j)) = some u:=hc0
 obtain rfl:=k100_open hK
 exact ⟨ad,e,hc 0 _ rfl,by rw [← add_field _ _ 1 (by omega)]; exact hc 1 _ rfl,by rw [← add_field _ _ 2 (by omega)]; exact hc 2 _ rfl,by rw [← add_field _ _ 3 (by omega)]; exact hc 3 _ rfl⟩

end Go.Proofs.YtehjfaddhmdicaaGreatDoor.P
namespace Go.Proofs.YtehjfaddhmdicaaGreatDoor.P
open Go.RowKit Go.Proofs.YtehjfaddhmdicaaGreatDoorW.PrintWords Go.Proofs.YtehjfaddhmdicaaGreatDoorW.PrintLast Go.Proofs.YtehjfaddhmdicaaGreatDoorW.PrintMore
theorem bk_ {A B:Prop} (a_:A) (h:A → B:=by (intro a_; (with_reducible repeat (first | refine blk_drewN ?_ _ | refine blk_drew ?_ | refine blk_alloc ?_ _)); exact a_)):B:=h a_
theorem bf1_ {A B N1:Prop} (n1_:N1) (a_:A) (h:N1 → A → B:=by (intro n1_ a_; (with_reducible repeat (first | refine blk_drewN ?_ _ | refine blk_drew ?_ | refine blk_alloc ?_ _)); refine blk_far ?_ n1_ _; (with_reducible repeat (first | refine blk_drewN ?_ _ | refine blk_drew ?_ | refine blk_alloc ?_ _)); exact a_)):B:=h n1_ a_
theorem bf2_ {A B N1 N2:Prop} (n1_:N1) (n2_:N2) (a_:A) (h:N1 → N2 → A → B:=by (intro n1_ n2_ a_; (with_reducible repeat (first | refine blk_drewN ?_ _ | refine blk_drew ?_ | refine blk_alloc ?_ _)); refine blk_far ?_ n1_ _; (with_reducible repeat (first | refine blk_drewN ?_ _ | refine blk_drew ?_ | refine blk_alloc ?_ _)); refine blk_far ?_ n2_ _; (with_reducible repeat (first | refine blk_drewN ?_ _ | refine blk_drew ?_ | refine blk_alloc ?_ _)); exact a_)):B:=h n1_ n2_ a_
theorem bf3_ {A B N1 N2 N3:Prop} (n1_:N1) (n2_:N2) (n3_:N3) (a_:A) (h:N1 → N2 → N3 → A → B:=by (intro n1_ n2_ n3_ a_; (with_reducible repeat (first | refine blk_drewN ?_ _ | refine blk_drew ?_ | refine blk_alloc ?_ _)); refine blk_far ?_ n1_ _; (with_reducible repeat (first | refine blk_drewN ?_ _ | refine blk_drew ?_ | refine blk_alloc ?_ _)); refine blk_far ?_ n2_ _; (with_reducible repeat (first | refine blk_drewN ?_ _ | refine blk_drew ?_ | refine blk_alloc ?_ _)); refine blk_far ?_ n3_ _; (with_reducible repeat (first | refine blk_drewN ?_ _ | refine blk_drew ?_ | refine blk_alloc ?_ _)); exact a_)):B:=h n1_ n2_ n3_ a_
theorem bf4_ {A B N1 N2 N3 N4:Prop} (n1_:N1) (n2_:N2) (n3_:N3) (n4_:N4) (a_:A) (h:N1 → N2 → N3 → N4 → A → B:=by (intro n1_ n2_ n3_ n4_ a_; (with_reducible repeat (first | refine blk_drewN ?_ _ | refine blk_drew ?_ | refine blk_alloc ?_ _)); refine blk_far ?_ n1_ _; (with_reducible repeat (first | refine blk_drewN ?_ _ | refine blk_drew ?_ | refine blk_alloc ?_ _)); refine blk_far ?_ n2_ _; (with_reducible repeat (first | refine blk_drewN ?_ _ | refine blk_drew ?_ | refine blk_alloc ?_ _)); refine blk_far ?_ n3_ _; (with_reducible repeat (first | refine blk_drewN ?_ _ | refine blk_drew ?_ | refine blk_alloc ?_ _)); refine blk_far ?_ n4_ _; (with_reducible repeat (first | refine blk_drewN ?_ _ | refine blk_drew ?_ | refine blk_alloc ?_ _)); exact a_)):B:=h n1_ n2_ n3_ n4_ a_
theorem bf5_ {A B N1 N2 N3 N4 N5:Prop} (n1_:N1) (n2_:N2) (n3_:N3) (n4_:N4) (n5_:N5) (a_:A) (h:N1 → N2 → N3 → N4 → N5 → A → B:=by (intro n1_ n2_ n3_ n4_ n5_ a_; (with_reducible repeat (first | refine blk_drewN ?_ _ | refine blk_drew ?_ | refine blk_alloc ?_ _)); refine blk_far ?_ n1_ _; (with_reducible repeat (first | refine blk_drewN ?_ _ | refine blk_drew ?_ | refine blk_alloc ?_ _)); refine blk_far ?_ n2_ _; (with_reducible repeat (first | refine blk_drewN ?_ _ | refine blk_drew ?_ | refine blk_alloc ?_ _)); refine blk_far ?_ n3_ _; (with_reducible repeat (first | refine blk_drewN ?_ _ | refine blk_drew ?_ | refine blk_alloc ?_ _)); refine blk_far ?_ n4_ _; (with_reducible repeat (first | refine blk_drewN ?_ _ | refine blk_drew ?_ | refine blk_alloc ?_ _)); refine blk_far ?_ n5_ _; (with_reducible repeat (first | refine blk_drewN ?_ _ | refine blk_drew ?_ | refine blk_alloc ?_ _)); exact a_)):B:=h n1_ n2_ n3_ n4_ n5_ a_
theorem bf6_ {A B N1 N2 N3 N4 N5 N6:Prop} (n1_:N1) (n2_:N2) (n3_:N3) (n4_:N4) (n5_:N5) (n6_:N6) (a_:A) (h:N1 → N2 → N3 → N4 → N5 → N6 → A → B:=by (intro n1_ n2_ n3_ n4_ n5_ n6_ a_; (with_reducible repeat (first | refine blk_drewN ?_ _ | refine blk_drew ?_ | refine blk_alloc ?_ _)); refine blk_far ?_ n1_ _; (with_reducible repeat (first | refine blk_drewN ?_ _ | refine blk_drew ?_ | refine blk_alloc ?_ _)); refine blk_far ?_ n2_ _; (with_reducible repeat (first | refine blk_drewN ?_ _ | refine blk_drew ?_ | refine blk_alloc ?_ _)); refine blk_far ?_ n3_ _; (with_reducible repeat (first | refine blk_drewN ?_ _ | refine blk_drew ?_ | refine blk_alloc ?_ _)); refine blk_far ?_ n4_ _; (with_reducible repeat (first | refine blk_drewN ?_ _ | refine blk_drew ?_ | refine blk_alloc ?_ _)); refine blk_far ?_ n5_ _; (with_reducible repeat (first | refine blk_drewN ?_ _ | refine blk_drew ?_ | refine blk_alloc ?_ _)); refine blk_far ?_ n6_ _; (with_reducible repeat (first | refine blk_drewN ?_ _ | refine blk_drew ?_ | refine blk_alloc ?_ _)); exact a_)):B:=h n1_ n2_ n3_ n4_ n5_ n6_ a_
theorem bf7_ {A B N1 N2 N3 N4 N5 N6 N7:Prop} (n1_:N1) (n2_:N2) (n3_:N3) (n4_:N4) (n5_:N5) (n6_:N6) (n7_:N7) (a_:A) (h:N1 → N2 → N3 → N4 → N5 → N6 → N7 → A → B:=by (intro n1_ n2_ n3_ n4_ n5_ n6_ n7_ a_; (with_reducible repeat (first | refine blk_drewN ?_ _ | refine blk_drew ?_ | refine blk_alloc ?_ _)); refine blk_far ?_ n1_ _; (with_reducible repeat (first | refine blk_drewN ?_ _ | refine blk_drew ?_ | refine blk_alloc ?_ _)); refine blk_far ?_ n2_ _; (with_reducible repeat (first | refine blk_drewN ?_ _ | refine blk_drew ?_ | refine blk_alloc ?_ _)); refine blk_far ?_ n3_ _; (with_reducible repeat (first | refine blk_drewN ?_ _ | refine blk_drew ?_ | refine blk_alloc ?_ _)); refine blk_far ?_ n4_ _; (with_reducible repeat (first | refine blk_drewN ?_ _ | refine blk_drew ?_ | refine blk_alloc ?_ _)); refine blk_far ?_ n5_ _; (with_reducible repeat (first | refine blk_drewN ?_ _ | refine blk_drew ?_ | refine blk_alloc ?_ _)); refine blk_far ?_ n6_ _; (with_reducible repeat (first | refine blk_drewN ?_ _ | refine blk_drew ?_ | refine blk_alloc ?_ _)); refine blk_far ?_ n7_ _; (with_reducible repeat (first | refine blk_drewN ?_ _ | refine blk_drew ?_ | refine blk_alloc ?_ _)); exact a_)):B:=h n1_ n2_ n3_ n4_ n5_ n6_ n7_ a_
theorem bf8_ {A B N1 N2 N3 N4 N5 N6 N7 N8:Prop} (n1_:N1) (n2_:N2) (n3_:N3) (n4_:N4) (n5_:N5) (n6_:N6) (n7_:N7) (n8_:N8) (a_:A) (h:N1 → N2 → N3 → N4 → N5 → N6 → N7 → N8 → A → B:=by (intro n1_ n2_ n3_ n4_ n5_ n6_ n7_ n8_ a_; (with_reducible repeat (first | refine blk_drewN ?_ _ | refine blk_drew ?_ | refine blk_alloc ?_ _)); refine blk_far ?_ n1_ _; (with_reducible repeat (first | refine blk_drewN ?_ _ | refine blk_drew ?_ | refine blk_alloc ?_ _)); refine blk_far ?_ n2_ _; (with_reducible repeat (first | refine blk_drewN ?_ _ | refine blk_drew ?_ | refine blk_alloc ?_ _)); refine blk_far ?_ n3_ _; (with_reducible repeat (first | refine blk_drewN ?_ _ | refine blk_drew ?_ | refine blk_alloc ?_ _)); refine blk_far ?_ n4_ _; (with_reducible repeat (first | refine blk_drewN ?_ _ | refine blk_drew ?_ | refine blk_alloc ?_ _)); refine blk_far ?_ n5_ _; (with_reducible repeat (first | refine blk_drewN ?_ _ | refine blk_drew ?_ | refine blk_alloc ?_ _)); refine blk_far ?_ n6_ _; (with_reducible repeat (first | refine blk_drewN ?_ _ | refine blk_drew ?_ | refine blk_alloc ?_ _)); refine blk_far ?_ n7_ _; (with_reducible repeat (first | refine blk_drewN ?_ _ | refine blk_drew ?_ | refine blk_alloc ?_ _)); refine blk_far ?_ n8_ _; (with_reducible repeat (first | refine blk_drewN ?_ _ | refine blk_drew ?_ | refine blk_alloc ?_ _)); exact a_)):B:=h n1_ n2_ n3_ n4_ n5_ n6_ n7_ n8_ a_
theorem bl0_ {A B :Prop} (a_:A)  (h:A → B:=by (intro a_ ; repeat (first | (with_reducible first | exact a_ | apply below_alloc | apply pw_below_drewN | apply below_drew1) | exact a_))):B:=h a_ 
theorem bl1_ {A B N1:Prop} (a_:A) (n1_:N1) (h:A → N1 → B:=by (intro a_ n1_; repeat (first | (with_reducible first | exact a_ | apply below_alloc | apply pw_below_drewN | apply below_drew1 | refine below_set ?_ n1_) | exact a_))):B:=h a_ n1_
theorem bl2_ {A B N1 N2:Prop} (a_:A) (n1_:N1) (n2_:N2) (h:A → N1 → N2 → B:=by (intro a_ n1_ n2_; repeat (first | (with_reducible first | exact a_ | apply below_alloc | apply pw_below_drewN | apply below_drew1 | refine below_set ?_ n1_ | refine below_set ?_ n2_) | exact a_))):B:=h a_ n1_ n2_
theorem bl3_ {A B N1 N2 N3:Prop} (a_:A) (n1_:N1) (n2_:N2) (n3_:N3) (h:A → N1 → N2 → N3 → B:=by (intro a_ n1_ n2_ n3_; repeat (first | (with_reducible first | exact a_ | apply below_alloc | apply pw_below_drewN | apply below_drew1 | refine below_set ?_ n1_ | refine below_set ?_ n2_ | refine below_set ?_ n3_) | exact a_))):B:=h a_ n1_ n2_ n3_
theorem bl4_ {A B N1 N2 N3 N4:Prop} (a_:A) (n1_:N1) (n2_:N2) (n3_:N3) (n4_:N4) (h:A → N1 → N2 → N3 → N4 → B:=by (intro a_ n1_ n2_ n3_ n4_; repeat (first | (with_reducible first | exact a_ | apply below_alloc | apply pw_below_drewN | apply below_drew1 | refine below_set ?_ n1_ | refine below_set ?_ n2_ | refine below_set ?_ n3_ | refine below_set ?_ n4_) | exact a_))):B:=h a_ n1_ n2_ n3_ n4_
theorem bl5_ {A B N1 N2 N3 N4 N5:Prop} (a_:A) (n1_:N1) (n2_:N2) (n3_:N3) (n4_:N4) (n5_:N5) (h:A → N1 → N2 → N3 → N4 → N5 → B:=by (intro a_ n1_ n2_ n3_ n4_ n5_; repeat (first | (with_reducible first | exact a_ | apply below_alloc | apply pw_below_drewN | apply below_drew1 | refine below_set ?_ n1_ | refine below_set ?_ n2_ | refine below_set ?_ n3_ | refine below_set ?_ n4_ | refine below_set ?_ n5_) | exact a_))):B:=h a_ n1_ n2_ n3_ n4_ n5_
theorem bl6_ {A B N1 N2 N3 N4 N5 N6:Prop} (a_:A) (n1_:N1) (n2_:N2) (n3_:N3) (n4_:N4) (n5_:N5) (n6_:N6) (h:A → N1 → N2 → N3 → N4 → N5 → N6 → B:=by (intro a_ n1_ n2_ n3_ n4_ n5_ n6_; repeat (first | (with_reducible first | exact a_ | apply below_alloc | apply pw_below_drewN | apply below_drew1 | refine below_set ?_ n1_ | refine below_set ?_ n2_ | refine below_set ?_ n3_ | refine below_set ?_ n4_ | refine below_set ?_ n5_ | refine below_set ?_ n6_) | exact a_))):B:=h a_ n1_ n2_ n3_ n4_ n5_ n6_
theorem bl7_ {A B N1 N2 N3 N4 N5 N6 N7:Prop} (a_:A) (n1_:N1) (n2_:N2) (n3_:N3) (n4_:N4) (n5_:N5) (n6_:N6) (n7_:N7) (h:A → N1 → N2 → N3 → N4 → N5 → N6 → N7 → B:=by (intro a_ n1_ n2_ n3_ n4_ n5_ n6_ n7_; repeat (first | (with_reducible first | exact a_ | apply below_alloc | apply pw_below_drewN | apply below_drew1 | refine below_set ?_ n1_ | refine below_set ?_ n2_ | refine below_set ?_ n3_ | refine below_set ?_ n4_ | refine below_set ?_ n5_ | refine below_set ?_ n6_ | refine below_set ?_ n7_) | exact a_))):B:=h a_ n1_ n2_ n3_ n4_ n5_ n6_ n7_
theorem bl8_ {A B N1 N2 N3 N4 N5 N6 N7 N8:Prop} (a_:A) (n1_:N1) (n2_:N2) (n3_:N3) (n4_:N4) (n5_:N5) (n6_:N6) (n7_:N7) (n8_:N8) (h:A → N1 → N2 → N3 → N4 → N5 → N6 → N7 → N8 → B:=by (intro a_ n1_ n2_ n3_ n4_ n5_ n6_ n7_ n8_; repeat (first | (with_reducible first | exact a_ | apply below_alloc | apply pw_below_drewN | apply below_drew1 | refine below_set ?_ n1_ | refine below_set ?_ n2_ | refine below_set ?_ n3_ | refine below_set ?_ n4_ | refine below_set ?_ n5_ | refine below_set ?_ n6_ | refine below_set ?_ n7_ | refine below_set ?_ n8_) | exact a_))):B:=h a_ n1_ n2_ n3_ n4_ n5_ n6_ n7_ n8_
theorem nl_ {w0 W:World} {g gb:Nat} {o:Obj} (hg:gb = W.heap.size) (a_:w0.heap[g]? = some o) (h:w0.heap[g]? = some o → W.heap[g]? = some o:=by (intro a_; (with_reducible repeat (first | refine blk_drewN ?_ _ | refine blk_drew ?_ | refine blk_alloc ?_ _)); exact a_)):g ≠ gb:=by rw [hg]; exact Nat.ne_of_lt (blk_lt (h a_))
theorem ng_ {w0 W:World} {g gb:Nat} {o:Obj} (hg:gb = W.heap.size) (a_:w0.heap[g]? = some o) (h:w0.heap[g]? = some o → W.heap[g]? = some o:=by (intro a_; (with_reducible repeat (first | refine blk_drewN ?_ _ | refine blk_drew ?_ | refine blk_alloc ?_ _)); exact a_)):gb ≠ g:=by rw [hg]; exact Nat.ne_of_gt (blk_lt (h a_))
theorem bb_ {w0 W W2:World} {g:Nat} {o:Obj} (a_:w0.heap[g]? = some o) (hb:Below W.heap.size W W2) (h:w0.heap[g]? = some o → W.heap[g]? = some o:=by (intro a_; (with_reducible repeat (first | refine blk_drewN ?_ _ | refine blk_drew ?_ | refine blk_alloc ?_ _)); exact a_)):W2.heap[g]? = some o:=blk_below (h a_) hb
theorem bs0_ {A :Prop} {w W:World} {gb:Nat} (hg:gb = W.heap.size) (a_:A)  (h:A → Below w.heap.size w W:=by (intro a_ ; repeat (first | (with_reducible first | exact a_ | apply below_alloc | apply pw_below_drewN | apply below_drew1) | exact a_))):w.heap.size ≤ gb:=by rw [hg]; exact below_size (h a_ )
theorem bs1_ {A N1:Prop} {w W:World} {gb:Nat} (hg:gb = W.heap.size) (a_:A) (n1_:N1) (h:A → N1 → Below w.heap.size w W:=by (intro a_ n1_; repeat (first | (with_reducible first | exact a_ | apply below_alloc | apply pw_below_drewN | apply below_drew1 | refine below_set ?_ n1_) | exact a_))):w.heap.size ≤ gb:=by rw [hg]; exact below_size (h a_ n1_)
theorem bs2_ {A N1 N2:Prop} {w W:World} {gb:Nat} (hg:gb = W.heap.size) (a_:A) (n1_:N1) (n2_:N2) (h:A → N1 → N2 → Below w.heap.size w W:=by (intro a_ n1_ n2_; repeat (first | (with_reducible first | exact a_ | apply below_alloc | apply pw_below_drewN | apply below_drew1 | refine below_set ?_ n1_ | refine below_set ?_ n2_) | exact a_))):w.heap.size ≤ gb:=by rw [hg]; exact below_size (h a_ n1_ n2_)
theorem bs3_ {A N1 N2 N3:Prop} {w W:World} {gb:Nat} (hg:gb = W.heap.size) (a_:A) (n1_:N1) (n2_:N2) (n3_:N3) (h:A → N1 → N2 → N3 → Below w.heap.size w W:=by (intro a_ n1_ n2_ n3_; repeat (first | (with_reducible first | exact a_ | apply below_alloc | apply pw_below_drewN | apply below_drew1 | refine below_set ?_ n1_ | refine below_set ?_ n2_ | refine below_set ?_ n3_) | exact a_))):w.heap.size ≤ gb:=by rw [hg]; exact below_size (h a_ n1_ n2_ n3_)
theorem bs4_ {A N1 N2 N3 N4:Prop} {w W:World} {gb:Nat} (hg:gb = W.heap.size) (a_:A) (n1_:N1) (n2_:N2) (n3_:N3) (n4_:N4) (h:A → N1 → N2 → N3 → N4 → Below w.heap.size w W:=by (intro a_ n1_ n2_ n3_ n4_; repeat (first | (with_reducible first | exact a_ | apply below_alloc | apply pw_below_drewN | apply below_drew1 | refine below_set ?_ n1_ | refine below_set ?_ n2_ | refine below_set ?_ n3_ | refine below_set ?_ n4_) | exact a_))):w.heap.size ≤ gb:=by rw [hg]; exact below_size (h a_ n1_ n2_ n3_ n4_)
theorem bs5_ {A N1 N2 N3 N4 N5:Prop} {w W:World} {gb:Nat} (hg:gb = W.heap.size) (a_:A) (n1_:N1) (n2_:N2) (n3_:N3) (n4_:N4) (n5_:N5) (h:A → N1 → N2 → N3 → N4 → N5 → Below w.heap.size w W:=by (intro a_ n1_ n2_ n3_ n4_ n5_; repeat (first | (with_reducible first | exact a_ | apply below_alloc | apply pw_below_drewN | apply below_drew1 | refine below_set ?_ n1_ | refine below_set ?_ n2_ | refine below_set ?_ n3_ | refine below_set ?_ n4_ | refine below_set ?_ n5_) | exact a_))):w.heap.size ≤ gb:=by rw [hg]; exact below_size (h a_ n1_ n2_ n3_ n4_ n5_)
theorem bs6_ {A N1 N2 N3 N4 N5 N6:Prop} {w W:World} {gb:Nat} (hg:gb = W.heap.size) (a_:A) (n1_:N1) (n2_:N2) (n3_:N3) (n4_:N4) (n5_:N5) (n6_:N6) (h:A → N1 → N2 → N3 → N4 → N5 → N6 → Below w.heap.size w W:=by (intro a_ n1_ n2_ n3_ n4_ n5_ n6_; repeat (first | (with_reducible first | exact a_ | apply below_alloc | apply pw_below_drewN | apply below_drew1 | refine below_set ?_ n1_ | refine below_set ?_ n2_ | refine below_set ?_ n3_ | refine below_set ?_ n4_ | refine below_set ?_ n5_ | refine below_set ?_ n6_) | exact a_))):w.heap.size ≤ gb:=by rw [hg]; exact below_size (h a_ n1_ n2_ n3_ n4_ n5_ n6_)
theorem bs7_ {A N1 N2 N3 N4 N5 N6 N7:Prop} {w W:World} {gb:Nat} (hg:gb = W.heap.size) (a_:A) (n1_:N1) (n2_:N2) (n3_:N3) (n4_:N4) (n5_:N5) (n6_:N6) (n7_:N7) (h:A → N1 → N2 → N3 → N4 → N5 → N6 → N7 → Below w.heap.size w W:=by (intro a_ n1_ n2_ n3_ n4_ n5_ n6_ n7_; repeat (first | (with_reducible first | exact a_ | apply below_alloc | apply pw_below_drewN | apply below_drew1 | refine below_set ?_ n1_ | refine below_set ?_ n2_ | refine below_set ?_ n3_ | refine below_set ?_ n4_ | refine below_set ?_ n5_ | refine below_set ?_ n6_ | refine below_set ?_ n7_) | exact a_))):w.heap.size ≤ gb:=by rw [hg]; exact below_size (h a_ n1_ n2_ n3_ n4_ n5_ n6_ n7_)
theorem bs8_ {A N1 N2 N3 N4 N5 N6 N7 N8:Prop} {w W:World} {gb:Nat} (hg:gb = W.heap.size) (a_:A) (n1_:N1) (n2_:N2) (n3_:N3) (n4_:N4) (n5_:N5) (n6_:N6) (n7_:N7) (n8_:N8) (h:A → N1 → N2 → N3 → N4 → N5 → N6 → N7 → N8 → Below w.heap.size w W:=by (intro a_ n1_ n2_ n3_ n4_ n5_ n6_ n7_ n8_; repeat (first | (with_reducible first | exact a_ | apply below_alloc | apply pw_below_drewN | apply below_drew1 | refine below_set ?_ n1_ | refine below_set ?_ n2_ | refine below_set ?_ n3_ | refine below_set ?_ n4_ | refine below_set ?_ n5_ | refine below_set ?_ n6_ | refine below_set ?_ n7_ | refine below_set ?_ n8_) | exact a_))):w.heap.size ≤ gb:=by rw [hg]; exact below_size (h a_ n1_ n2_ n3_ n4_ n5_ n6_ n7_ n8_)
theorem ap_ {A:Prop} (h:A:=by (show Act.put _ (some _) _ = _; simp only [Act.put,List.setIfInBounds_toArray,List.set_cons_zero,List.set_cons_succ,i64_w,i32_w]; rfl)):A:=h
theorem er_ {A:Prop} (h:A:=by (first | rfl | (simp [errW_none,errW_some] <;> rfl) | (simp [*,errW_none,errW_some] <;> rfl))):A:=h
theorem kr_ {A B:Prop} (a_:A) (h:A → B:=by (intro a_; (with_reducible repeat (first | apply Kd.R_alloc | apply Kd.R_drewN | apply Kd.R_drew)); exact a_)):B:=h a_
theorem kc_ {A B:Prop} (a_:A) (h:A → B:=by (intro a_; repeat (first | exact a_ | (with_reducible refine Kd.C_alloc ?_ _) | (with_reducible refine Kd.C_drewN ?_ _) | (with_reducible refine Kd.C_drew ?_)))):B:=h a_
theorem ob_ {A:Prop} (h:A:=by ((try simp only [List.map_toArray,List.map_cons,List.map_nil]); first | done | rfl | (simp only [List.length_drop,List.length_take]; rfl))):A:=h
theorem rs_ {A:Prop} (h:A:=by (first | rfl | (simp; done) | (simp [*]; done))):A:=h
theorem as_ {A:Prop} (h:A:=by (first | (with_reducible assumption) | assumption)):A:=h
theorem boxE_ {P:Program} {ops:Array Oper} {Q:Exit → Act → World → Prop} {rest:List Oper} {a:Act} {o:Oper} {W:World} {N:Tmp} {cs:Array Value} {t:TypeId}
  (h:∀ g,g = W.heap.size → ∀ w1,w1.heap[g]? = some (.cells cs t (0,0)) → Below W.heap.size W w1 → wpList P ops Q rest (a.put o.dst (.pointer (some ⟨g,0,none⟩))) w1)
  (hd:o.dst = some N:=by rfl) (hg:o.guard = none:=by rfl) (hr:(execOp a.eval o).run P W = .ok (.value (.pointer (some ⟨W.heap.size,0,none⟩))) (W.alloc (.cells cs t (0,0))):=by first | (go_simp; done) | (go_simp; rfl)):wpList P ops Q (o :: rest) a W :=
 box_event hg hd hr h
theorem am_ {p:Prop} (h:p):Aside0 p:=⟨h⟩
theorem bc_ {w:World} {g:Nat} {t:TypeId} {cs:Array Value} (h:w.heap[g]? = some (.cells cs t (0,0))) (i:Nat):w.cell? ⟨g,i,none⟩ = cs[i]?:=blk_cell h i
theorem bz_ {w:World} {g:Nat} {t:TypeId} {cs:Array Value} (h:w.heap[g]? = some (.cells cs t (0,0))) (i:Nat):w.frozen? ⟨g,i,none⟩ = false:=blk_frozen h i
theorem wl_ (w:World) (a:Addr) {u:Value} (h:w.cell? a = some u):a.block < w.heap.size:=World.block_lt_of_cell? w a h
theorem bi_ {α β:Type} {o:Option α} {f:α → Option β} {b:β} (h:o.bind f = some b):∃ a,o = some a ∧ f a = some b:=Option.bind_eq_some_iff.mp h
end Go.Proofs.YtehjfaddhmdicaaGreatDoor.P
namespace Go.Proofs.YtehjfaddhmdicaaGreatDoor.P
open Go.RowKit Go.Proofs.YtehjfaddhmdicaaGreatDoorW.PrintWords Go.Proofs.YtehjfaddhmdicaaGreatDoorW.PrintLast Go.Proofs.YtehjfaddhmdicaaGreatDoorW.PrintMore
attribute [local go_sem] max2_int min2_int max_two min_two max_three min_three max_four min_four   -- for this text's walks alone
set_option linter.unusedVariables false
set_option linter.unusedSimpArgs false

def TwoB (cs:List Value):Prop:=∀ u v,cs[2]? = some u → cs[3]? = some v → ∀ k:Nat,some k = (u:Value).ownBlock → some k ≠ (v:Value).ownBlock
def kF:Kd S26 where
  sz:=k26.sz
  E:=k26.E
  K:=k26.K
  M:=fun w base ok x cs => k26.M w base ok x cs ∧ TwoB cs
  K_len:=fun h => k26.K_len h
  K_one:=fun h => k26.K_one h
  K_below:=fun hb h => k26.K_below hb h
  K_of_M:=fun h => k26.K_of_M h.1
  M_mono:=fun hok h => ⟨k26.M_mono hok h.1,h.2⟩
  M_bound:=fun h => ⟨k26.M_bound h.1,h.2⟩
  M_move:=fun hm h => ⟨k26.M_move hm h.1,h.2⟩
  M_lower:=fun hb h => ⟨k26.M_lower hb h.1,h.2⟩
theorem kF_openM {w:World} {base:Nat} {ok:Nat → Prop} {x:S26} {cs:List Value} (h:kF.M w base ok x cs):∃ v2 v3:Value,cs = [.int .i64 x.f0,.int .i64 x.f1,v2,v3] ∧ (Kd.int .i64).R 3 w base ok v2 x.f2 ∧ (Kd.int .i64).R 3 w base ok v3 x.f3 ∧ ∀ k:Nat,some k = v2.ownBlock → some k ≠ v3.ownBlock:=by
  obtain ⟨v2,v3,rfl,h2,h3⟩:=k26_openM h.1
  exact ⟨v2,v3,rfl,h2,h3,h.2 v2 v3 rfl rfl⟩
theorem kF_mkM (w:World) (base:Nat) (ok:Nat → Prop) (x:S26) {v2 v3:Value} (gg2:(Kd.int .i64).R 3 w base ok v2 x.f2) (gg3:(Kd.int .i64).R 3 w base ok v3 x.f3) (hne:∀ k:Nat,some k = v2.ownBlock → some k ≠ v3.ownBlock):kF.M w base ok x [.int .i64 x.f0,.int .i64 x.f1,v2,v3] :=
  ⟨k26_mkM w base ok x gg2 gg3,fun u v hu hv => by
    cases hu
    cases hv
    exact hne⟩


theorem heap3_0 (w:World) (o1 o2 o3:Obj):(((w.alloc o1).alloc o2).alloc o3).heap[w.heap.size]? = some o1:=by
  rw [Below.heap_alloc ((w.alloc o1).alloc o2) o3 _ (by simp; omega),Below.heap_alloc (w.alloc o1) o2 _ (by simp),heap_alloc_new]
theorem heap3_1 (w:World) (o1 o2 o3:Obj):(((w.alloc o1).alloc o2).alloc o3).heap[w.heap.size + 1]? = some o2:=by
  rw [Below.heap_alloc ((w.alloc o1).alloc o2) o3 _ (by simp)]
  have:=heap_alloc_new (w.alloc o1) o2
  simpa using this
theorem heap3_2 (w:World) (o1 o2 o3:Obj):(((w.alloc o1).alloc o2).alloc o3).heap[w.heap.size + 1 + 1]? = some o3:=by
  have:=heap_alloc_new ((w.alloc o1).alloc o2) o3
  simpa using this
theorem blk_keep {W w1:World} {g:Nat} {o:Obj} (h:W.heap[g]? = some o) (hb:Below W.heap.size W w1):w1.heap[g]? = some o :=
  (hb.block g (Array.getElem?_eq_some_iff.1 h).1).trans h
theorem blk_kept2 {W w1:World} {g:Nat} {o:Obj} {S:Nat → Prop} (h:W.heap[g]? = some o) (hk:Kept W w1 S) (hne:¬ S g):w1.heap[g]? = some o :=
  (hk.2 g (Array.getElem?_eq_some_iff.1 h).1 hne).trans h


def laws_roomBehind.f (a0:Int):Option (Int):=if (Int.tmod a0 6) = 5 then (some 0) else (if (Int.tmod a0 3) = 0 then (some 1) else (some a0))
set_option maxHeartbeats 8000000 in
set_option maxRecDepth 100000 in
theorem laws_roomBehind.calls (a0:Int) (r:Int) (w:World) (h:laws_roomBehind.f a0 = some r) :
    Calls Tryz.prog 39 #[.int .i64 a0] w fun e w' => e = .returned (.int .i64 r) ∧ Drawn0 w w':=by
  have H:(if (Int.tmod a0 6) = 5 then (some 0) else (if (Int.tmod a0 3) = 0 then (some 1) else (some a0))) = some r:=h
  clear h
  by_cases c2:(Int.tmod a0 6) = 5
  · rw [if_pos c2] at H
    have c2b0:((Int.tmod a0 6) == 5) = true:=beq_iff_eq.mpr c2
    have c2b1:((Int.tmod a0 6) != 5) = false:=bne_eq_false_iff_eq.mpr c2
    clear c2
    obtain rfl:=Option.some.inj H
    go_enter Tryz.func39,Tryz.ntmps39
    go_wp2
    go_ret
    exact ⟨by first | rfl | (simp; done) | (simp [*]; done),by repeat (first | exact Drawn0.refl _ | apply Drawn0.step)⟩
  · rw [if_neg c2] at H
    have c2b0:((Int.tmod a0 6) == 5) = false:=beq_eq_false_iff_ne.mpr c2
    have c2b1:((Int.tmod a0 6) != 5) = true:=bne_iff_ne.mpr c2
    by_cases c3:(Int.tmod a0 3) = 0
    · rw [if_pos c3] at H
      have c3b0:((Int.tmod a0 3) == 0) = true:=beq_iff_eq.mpr c3
      have c3b1:((Int.tmod a0 3) != 0) = false:=bne_eq_false_iff_eq.mpr c3
      clear c3
      obtain rfl:=Option.some.inj H
      go_enter Tryz.func39,Tryz.ntmps39
      go_wp2
      go_ret
      exact ⟨by first | rfl | (simp; done) | (simp [*]; done),by repeat (first | exact Drawn0.refl _ | apply Drawn0.step)⟩
    · rw [if_neg c3] at H
      have c3b0:((Int.tmod a0 3) == 0) = false:=beq_eq_false_iff_ne.mpr c3
      have c3b1:((Int.tmod a0 3) != 0) = true:=bne_iff_ne.mpr c3
      obtain rfl:=Option.some.inj H
      go_enter Tryz.func39,Tryz.ntmps39
      go_wp2
      go_ret
      exact ⟨by first | rfl | (simp; done) | (simp [*]; done),by repeat (first | exact Drawn0.refl _ | apply Drawn0.step)⟩


def PredI (g:Nat) (lb:Array Value) (p:Int → Bool) (w:World):Prop:=∀ (W:World) (x:Int),Below w.heap.size w W → Calls Tryz.prog g (#[.int .i64 x] ++ lb) W fun e w' => e = .returned (.bool (p x)) ∧ Below W.heap.size W w'
def idxFrom {α:Type} (p:α → Bool):List α → Nat → Int
  | [],_ => -1
  | x :: xs,k => if p x then (k:Int) else idxFrom p xs (k + 1)
theorem idxFrom_iff {α:Type} (p:α → Bool) (l:List α):∀ k,0 ≤ idxFrom p l k ↔ l.any p = true:=by
  induction l with
  | nil => intro k; simp [idxFrom]
  | cons x xs ih =>
    intro k
    rw [List.any_cons]
    unfold idxFrom
    by_cases h:p x = true
    · rw [if_pos h,h]; simp
    · rw [if_neg h,ih (k + 1),Bool.eq_false_iff.mpr h]; simp
theorem idxFrom_ge {α:Type} (p:α → Bool) (l:List α) (k:Nat):decide (0 ≤ idxFrom p l k) = l.any p:=by
  rw [Bool.eq_iff_iff,decide_eq_true_iff]; exact idxFrom_iff p l k
theorem idxFrom_drop {α:Type} (p:α → Bool) (l:List α) (k:Nat) (h:k < l.length):idxFrom p (l.drop k) k = if p l[k] then (k:Int) else idxFrom p (l.drop (k + 1)) (k + 1):=by
  rw [List.drop_eq_getElem_cons h]; rfl
theorem idxFrom_cases_aux {α:Type} (p:α → Bool) (l:List α):∀ k,(l.filter (fun x => !p x) = l ∧ idxFrom p l k = -1) ∨ ∃ i0,i0 < l.length ∧ idxFrom p l k = ((k + i0:Nat):Int) ∧ (l.take (i0 + 1)).filter (fun x => !p x) = l.take i0:=by
  induction l with
  | nil => intro k; exact .inl ⟨rfl,rfl⟩
  | cons x xs ih =>
    intro k
    by_cases h:p x = true
    · exact .inr ⟨0,by simp,by unfold idxFrom; rw [if_pos h]; rfl,by simp [h]⟩
    · rcases ih (k + 1) with ⟨h1,h2⟩ | ⟨i0,h1,h2,h3⟩
      · exact .inl ⟨by simp [h,h1],by unfold idxFrom; rw [if_neg h,h2]⟩
      · exact .inr ⟨i0 + 1,by simp [h1],by unfold idxFrom; rw [if_neg h,h2]; congr 1; omega,by rw [List.take_succ_cons,List.filter_cons,if_pos (by simp [h]),h3,List.take_succ_cons]⟩
theorem idxFrom_cases {α:Type} (p:α → Bool) (l:List α):(l.filter (fun x => !p x) = l ∧ idxFrom p l 0 = -1) ∨ ∃ i0,i0 < l.length ∧ idxFrom p l 0 = (i0:Int) ∧ (l.take (i0 + 1)).filter (fun x => !p x) = l.take i0:=by
  have:=idxFrom_cases_aux p l 0
  simpa using this
theorem rd_nat (l:List Int) (k:Nat) (h:k < l.length):rd l (k:Int) = l[k]:=by
  unfold rd; rw [Int.toNat_natCast,List.getD_eq_getElem?_getD,List.getElem?_eq_getElem h]; rfl
set_option maxHeartbeats 2000000 in
theorem indexI_any (g:Nat) (lb:Array Value) (p:Int → Bool) (eg:∀ args w,(callFunc g args).run Tryz.prog w = .ok (.enter g args) w) (A0:Option Addr) (c0:Nat) (l0:List Int) (w:World) (hr0:Kd.C (Kd.int .i64) w A0 l0.length l0) (hp:PredI g lb p w) :
    Calls Tryz.prog 131 #[.slice A0 l0.length c0,.func (.func g) #[] lb] w fun e w' => e = .returned (.int .i64 (idxFrom p l0 0)) ∧ Below w.heap.size w w':=by
  have HR0:=am_ hr0
  have HP:=am_ hp
  have hbig:l0.length ≤ 9223372036854775807:=hr0.2.1
  clear hr0 hp
  generalize hn:l0.length = n at hbig
  have HN:=am_ hn
  clear hn
  have HR:Aside0 (Kd.C (Kd.int .i64) w A0 n l0):=⟨by have h:=HR0.out; rw [HN.out] at h; exact h⟩
  clear HR0
  go_enter Tryz.func131,Tryz.ntmps131
  go_wp2
  go_loopg [5,8] n (fun gg _ s8 wr => ∃ kk:Nat,kk ≤ n ∧ n - kk ≤ gg ∧ s8 = .int .i64 kk ∧ Aside0 (Below w.heap.size w wr) ∧ Aside0 (idxFrom p l0 0 = idxFrom p (l0.drop kk) kk))
  case atStart => exact ⟨0,Nat.zero_le _,by omega,rfl,⟨Below.refl _ w⟩,⟨rfl⟩⟩
  case round =>
    obtain ⟨kk,hkk,hg,rfl,BW,A⟩:=hrel
    by_cases hlt:kk < n
    · have hltz:(kk:Int) < (n:Int):=by omega
      have hll:kk < l0.length:=by rw [HN.out]; exact hlt
      obtain ⟨ad,eA,hx⟩:=Kd.at_int (Kd.C_below HR.out BW.out) (kk:Int) (by omega) (by omega)
      cases eA
      rw [rd_nat l0 kk hll,Int.toNat_natCast] at hx
      have hcall:=HP.out wr l0[kk] BW.out
      have hs:=idxFrom_drop p l0 kk hll
      have A2:Aside0 (idxFrom p l0 0 = if p l0[kk] then (kk:Int) else idxFrom p (l0.drop (kk + 1)) (kk + 1)):=⟨by rw [A.out,hs]⟩
      clear A hs
      generalize hy:l0[kk] = y at hx hcall A2
      clear hy hll
      cases hq:p y with
      | true =>
        rw [hq] at hcall
        have A3:Aside0 (idxFrom p l0 0 = (kk:Int)):=⟨by rw [A2.out,if_pos hq]⟩
        clear A2 hq
        go_wp2_with (go_at_fn g; refine hcall.mono ?_; rintro e w' ⟨rfl,hb'⟩)
        go_ret
        exact ⟨by rw [A3.out]; rfl,BW.out.trans (hb'.mono BW.out.size)⟩
      | false =>
        rw [hq] at hcall
        have A3:Aside0 (idxFrom p l0 0 = idxFrom p (l0.drop (kk + 1)) (kk + 1)):=⟨by rw [A2.out,if_neg (by rw [hq]; simp)]⟩
        clear A2 hq
        go_wp2_with (go_at_fn g; refine hcall.mono ?_; rintro e w' ⟨rfl,hb'⟩)
        go_roundg (n - (kk + 1))
        case measure => omega
        case rel => exact ⟨kk + 1,by omega,by omega,by go_num,⟨BW.out.trans (hb'.mono BW.out.size)⟩,A3⟩
    · have hltz:¬ (kk:Int) < (n:Int):=by omega
      have:kk = n:=by omega
      subst this
      go_wp2
      go_ret
      exact ⟨by rw [A.out,List.drop_of_length_le (by rw [HN.out]; exact Nat.le_refl _)]; rfl,BW.out⟩


def roomN (n:Nat):Nat:=if n % 6 = 5 then 0 else if n % 3 = 0 then 1 else n
theorem roomN_le (n:Nat):roomN n ≤ n + 1:=by unfold roomN; split <;> (try split) <;> omega
theorem roomN_pos (n:Nat):0 < n + roomN n:=by unfold roomN; split <;> (try split) <;> omega
theorem roomN_f (n:Nat):laws_roomBehind.f (n:Int) = some (roomN n:Int):=by
  unfold laws_roomBehind.f roomN
  rw [Int.tmod_eq_emod_of_nonneg (by omega),Int.tmod_eq_emod_of_nonneg (by omega)]
  by_cases h:n % 6 = 5
  · rw [if_pos (by omega),if_pos h]; rfl
  · rw [if_neg (by omega),if_neg h]
    by_cases h2:n % 3 = 0
    · rw [if_pos (by omega),if_pos h2]; rfl
    · rw [if_neg (by omega),if_neg h2]
def fullOf (l:List Int):List Int:=l ++ List.replicate (roomN l.length) (-7000000000000000101)
theorem fullOf_length (l:List Int):(fullOf l).length = l.length + roomN l.length:=by simp [fullOf]
theorem fullOf_take (l:List Int):(fullOf l).take l.length = l:=by simp [fullOf]
theorem room_at0 (l:List Int) (N:Nat):List.replicate N (0:Int) = l.take 0 ++ List.replicate (N - 0) 0:=by simp
theorem room_step1 (l:List Int) (N k:Nat) (h:k < l.length) (hN:l.length ≤ N):(l.take k ++ List.replicate (N - k) (0:Int)).set k (rd l (k:Int)) = l.take (k + 1) ++ List.replicate (N - (k + 1)) 0:=by
  rw [rd_nat l k h,List.take_succ_eq_append_getElem h]
  obtain ⟨q,hq⟩:∃ q,N - k = q + 1:=⟨N - k - 1,by omega⟩
  have hl:(l.take k).length = k:=by rw [List.length_take]; omega
  rw [hq,List.replicate_succ,List.set_append,if_neg (by omega),hl,Nat.sub_self,List.set_cons_zero,List.append_assoc,show N - (k + 1) = q by omega]
  rfl
theorem room_mid (l:List Int) (N:Nat):l.take l.length ++ List.replicate (N - l.length) (0:Int) = l ++ List.replicate (l.length - l.length) (-7000000000000000101) ++ List.replicate (N - l.length) 0:=by simp
theorem room_step2 (l:List Int) (N k:Nat) (h:l.length ≤ k) (hN:k < N):(l ++ List.replicate (k - l.length) (-7000000000000000101) ++ List.replicate (N - k) (0:Int)).set k (-7000000000000000101) = l ++ List.replicate (k + 1 - l.length) (-7000000000000000101) ++ List.replicate (N - (k + 1)) 0:=by
  obtain ⟨q,hq⟩:∃ q,N - k = q + 1:=⟨N - k - 1,by omega⟩
  have hl:(l ++ List.replicate (k - l.length) (-7000000000000000101:Int)).length = k:=by simp; omega
  rw [hq,List.replicate_succ,List.set_append,if_neg (by omega),hl,Nat.sub_self,List.set_cons_zero,show N - (k + 1) = q by omega,show k + 1 - l.length = (k - l.length) + 1 by omega,List.replicate_succ',List.append_assoc,List.append_assoc,List.append_assoc]
  rfl
theorem room_end (l:List Int):l ++ List.replicate (l.length + roomN l.length - l.length) (-7000000000000000101) ++ List.replicate (l.length + roomN l.length - (l.length + roomN l.length)) (0:Int) = fullOf l:=by simp [fullOf]
theorem room_len1 (l:List Int) (N k:Nat) (h:k ≤ l.length) (hN:l.length ≤ N):(l.take k ++ List.replicate (N - k) (0:Int)).length = N:=by simp; omega
theorem room_len2 (l:List Int) (N k:Nat) (h:l.length ≤ k) (hN:k ≤ N):(l ++ List.replicate (k - l.length) (-7000000000000000101) ++ List.replicate (N - k) (0:Int)).length = N:=by simp; omega


def laws_szIntS.f (l0:List Int) (a1:Int):Option (Int):=if (wrap64 (a1 - (l0.length:Int))) < 0 then (some (-1)) else (some (wrap64 (a1 - (l0.length:Int))))
set_option maxHeartbeats 8000000 in
set_option maxRecDepth 100000 in
theorem laws_szIntS.calls (A0:Option Addr) (c0:Nat) (l0:List Int) (a1:Int) (r:Int) (w:World) (hr0:Kd.C (Kd.int .i64) w A0 l0.length l0) (hc0:l0.length ≤ c0) (h:laws_szIntS.f l0 a1 = some r) :
    Calls Tryz.prog 24 #[.slice A0 l0.length c0,.int .i64 a1] w fun e w' => e = .returned (.int .i64 r) ∧ Drawn0 w w':=by
  have HR0:=am_ hr0
  have HC0:=am_ hc0
  clear hr0 hc0
  have H:(if (wrap64 (a1 - (l0.length:Int))) < 0 then (some (-1)) else (some (wrap64 (a1 - (l0.length:Int))))) = some r:=h
  clear h
  by_cases c3:(wrap64 (a1 - (l0.length:Int))) < 0
  · rw [if_pos c3] at H
    have c3b0:decide ((wrap64 (a1 - (l0.length:Int))) < 0) = true:=decide_eq_true c3
    clear c3
    obtain rfl:=Option.some.inj H
    go_enter Tryz.func24,Tryz.ntmps24
    go_wp2
    go_ret
    exact ⟨by first | rfl | (simp; done) | (simp [*]; done),by repeat (first | exact Drawn0.refl _ | apply Drawn0.step)⟩
  · rw [if_neg c3] at H
    have c3b0:decide ((wrap64 (a1 - (l0.length:Int))) < 0) = false:=decide_eq_false c3
    clear c3
    obtain rfl:=Option.some.inj H
    go_enter Tryz.func24,Tryz.ntmps24
    go_wp2
    go_ret
    exact ⟨by first | rfl | (simp; done) | (simp [*]; done),by repeat (first | exact Drawn0.refl _ | apply Drawn0.step)⟩


def laws_szFigure.f (a0_0:Int) (a0_1:Int) (l0_2:List Int) (l0_3:List Int) (a1:Int):Option (Int):=(laws_szIntS.f l0_2 a1).bind fun t102 => (if t102 < 0 then (some (-1)) else ((laws_szIntS.f l0_3 t102).bind fun t103 => (if t103 < 0 then (some (-1)) else (some t103))))
set_option maxHeartbeats 8000000 in
set_option maxRecDepth 100000 in
theorem laws_szFigure.calls (a0_0:Int) (a0_1:Int) (A0_2:Option Addr) (c0_2:Nat) (l0_2:List Int) (A0_3:Option Addr) (c0_3:Nat) (l0_3:List Int) (a1:Int) (r:Int) (w:World) (hr0_2:Kd.C (Kd.int .i64) w A0_2 l0_2.length l0_2) (hc0_2:l0_2.length ≤ c0_2) (hr0_3:Kd.C (Kd.int .i64) w A0_3 l0_3.length l0_3) (hc0_3:l0_3.length ≤ c0_3) (h:laws_szFigure.f a0_0 a0_1 l0_2 l0_3 a1 = some r) :
  Calls Tryz.prog 7 #[.agg #[.int .i64 a0_0,.int .i64 a0_1,.slice A0_2 l0_2.length c0_2,.slice A0_3 l0_3.length c0_3],.int .i64 a1] w fun e w' => e = .returned (.int .i64 r) ∧ Below w.heap.size w w':=by
 have hu24:=Tryz.underlying24
 have HR0_2:=am_ hr0_2
 have HC0_2:=am_ hc0_2
 clear hr0_2 hc0_2
 have HR0_3:=am_ hr0_3
 have HC0_3:=am_ hc0_3
 clear hr0_3 hc0_3
 have HB:=am_ (Below.refl w.heap.size w)
 have H:((laws_szIntS.f l0_2 a1).bind fun t102 => (if t102 < 0 then (some (-1)) else ((laws_szIntS.f l0_3 t102).bind fun t103 => (if t103 < 0 then (some (-1)) else (some t103))))) = some r:=h
 clear h
 replace H:=bi_ H
 obtain ⟨t102,A30,H⟩:=H
 replace H:(if t102 < 0 then (some (-1)) else ((laws_szIntS.f l0_3 t102).bind fun t103 => (if t103 < 0 then (some (-1)) else (some t103)))) = some r:=H
 have A3:=am_ A30
 clear A30
 by_cases c4:t102 < 0
 ·rw [if_pos c4] at H
  have c4b0:decide (t102 < 0) = true:=decide_eq_true c4
  clear c4
  obtain rfl:=Option.some.inj H
  go_enter Tryz.func7,Tryz.ntmps7
  go_wp2_with (first | ((with_reducible refine gate_dst (N:=2) rfl ?_); refine boxE_ (N:=2) (cs:=#[.int .i64 a0_0,.int .i64 a0_1,.slice A0_2 l0_2.length c0_2,.slice A0_3 l0_3.length c0_3]) (t:=24) ?_; intro gb101 hg w5 hbox hb; have n0_:=am_ (below_step (bl0_ HB.out) hb); have n1_:=am_ (hbox); have n2_:=am_ ((bs0_ hg HB.out:w.heap.size ≤ gb101)); have n3_:=am_ ((bs0_ hg HB.out:w.heap.size ≤ gb101)); clear HB; have HB:=n0_; have BK101:=n1_; have GW101:=n2_; have GE101:=n3_; clear n0_ n1_ n2_ n3_; clear hb hbox hg; have hcz6_0:w5.cell? ⟨gb101,0,none⟩ = some (.int .i64 a0_0):=(bc_ BK101.out 0).trans rfl; have hcz6_1:w5.cell? ⟨gb101,1,none⟩ = some (.int .i64 a0_1):=(bc_ BK101.out 1).trans rfl; have hcz6_2:w5.cell? ⟨gb101,2,none⟩ = some (.slice A0_2 l0_2.length c0_2):=(bc_ BK101.out 2).trans rfl; have hcz6_3:w5.cell? ⟨gb101,3,none⟩ = some (.slice A0_3 l0_3.length c0_3):=(bc_ BK101.out 3).trans rfl; have hfz6_0:=bz_ BK101.out 0; have hfz6_1:=bz_ BK101.out 1; have hfz6_2:=bz_ BK101.out 2; have hfz6_3:=bz_ BK101.out 3) | ((with_reducible refine gate_callee (f:=24) rfl ?_); refine goesL_ (some 8) rfl rfl Tryz.func24 (by kernel_rfl) rfl #[.slice A0_2 l0_2.length c0_2,.int .i64 a1] rfl ob_ ?_; (with_reducible refine (laws_szIntS.calls _ _ l0_2 a1 t102 _ ?side1 ?side2 A3.out).mono ?_); (case side1 => exact kc_ (Kd.C_below HR0_2.out HB.out)); (case side2 => exact HC0_2.out); rintro e w' ⟨rfl,⟨nd,rfl⟩⟩; refine ⟨_,rfl,?_⟩))
  go_ret
  exact ⟨er_,bl1_ HB.out GE101.out⟩
 ·rw [if_neg c4] at H
  have c4b0:decide (t102 < 0) = false:=decide_eq_false c4
  clear c4
  replace H:=bi_ H
  obtain ⟨t103,A70,H⟩:=H
  replace H:(if t103 < 0 then (some (-1)) else (some t103)) = some r:=H
  have A7:=am_ A70
  clear A70
  by_cases c8:t103 < 0
  ·rw [if_pos c8] at H
   have c8b0:decide (t103 < 0) = true:=decide_eq_true c8
   clear c8
   obtain rfl:=Option.some.inj H
   go_enter Tryz.func7,Tryz.ntmps7
   go_wp2_with (first | ((with_reducible refine gate_dst (N:=2) rfl ?_); refine boxE_ (N:=2) (cs:=#[.int .i64 a0_0,.int .i64 a0_1,.slice A0_2 l0_2.length c0_2,.slice A0_3 l0_3.length c0_3]) (t:=24) ?_; intro gb101 hg w9 hbox hb; have n0_:=am_ (below_step (bl0_ HB.out) hb); have n1_:=am_ (hbox); have n2_:=am_ ((bs0_ hg HB.out:w.heap.size ≤ gb101)); have n3_:=am_ ((bs0_ hg HB.out:w.heap.size ≤ gb101)); clear HB; have HB:=n0_; have BK101:=n1_; have GW101:=n2_; have GE101:=n3_; clear n0_ n1_ n2_ n3_; clear hb hbox hg; have hcz10_0:w9.cell? ⟨gb101,0,none⟩ = some (.int .i64 a0_0):=(bc_ BK101.out 0).trans rfl; have hcz10_1:w9.cell? ⟨gb101,1,none⟩ = some (.int .i64 a0_1):=(bc_ BK101.out 1).trans rfl; have hcz10_2:w9.cell? ⟨gb101,2,none⟩ = some (.slice A0_2 l0_2.length c0_2):=(bc_ BK101.out 2).trans rfl; have hcz10_3:w9.cell? ⟨gb101,3,none⟩ = some (.slice A0_3 l0_3.length c0_3):=(bc_ BK101.out 3).trans rfl; have hfz10_0:=bz_ BK101.out 0; have hfz10_1:=bz_ BK101.out 1; have hfz10_2:=bz_ BK101.out 2; have hfz10_3:=bz_ BK101.out 3) | ((with_reducible refine gate_callee (f:=24) rfl ?_); refine goesL_ (some 8) rfl rfl Tryz.func24 (by kernel_rfl) rfl #[.slice A0_2 l0_2.length c0_2,.int .i64 a1] rfl ob_ ?_; (with_reducible refine (laws_szIntS.calls _ _ l0_2 a1 t102 _ ?side1 ?side2 A3.out).mono ?_); (case side1 => exact kc_ (Kd.C_below HR0_2.out HB.out)); (case side2 => exact HC0_2.out); rintro e w' ⟨rfl,⟨nd,rfl⟩⟩; refine ⟨_,rfl,?_⟩) | ((with_reducible refine gate_callee (f:=24) rfl ?_); refine goesL_ (some 14) rfl rfl Tryz.func24 (by kernel_rfl) rfl #[.slice A0_3 l0_3.length c0_3,.int .i64 t102] rfl ob_ ?_; (with_reducible refine (laws_szIntS.calls _ _ l0_3 t102 t103 _ ?side1 ?side2 A7.out).mono ?_); (case side1 => repeat (first | exact (Kd.C_below HR0_3.out (bl1_ HB.out GE101.out)) | (with_reducible refine Kd.C_alloc ?_ _) | (with_reducible refine Kd.C_drewN ?_ _) | (with_reducible refine Kd.C_drew ?_))); (case side2 => exact HC0_3.out); rintro e w' ⟨rfl,⟨nd,rfl⟩⟩; refine ⟨_,rfl,?_⟩))
   go_ret
   exact ⟨er_,bl1_ HB.out GE101.out⟩
  ·rw [if_neg c8] at H
   have c8b0:decide (t103 < 0) = false:=decide_eq_false c8
   clear c8
   obtain rfl:=Option.some.inj H
   go_enter Tryz.func7,Tryz.ntmps7
   go_wp2_with (first | ((with_reducible refine gate_dst (N:=2) rfl ?_); refine boxE_ (N:=2) (cs:=#[.int .i64 a0_0,.int .i64 a0_1,.slice A0_2 l0_2.length c0_2,.slice A0_3 l0_3.length c0_3]) (t:=24) ?_; intro gb101 hg w11 hbox hb; have n0_:=am_ (below_step (bl0_ HB.out) hb); have n1_:=am_ (hbox); have n2_:=am_ ((bs0_ hg HB.out:w.heap.size ≤ gb101)); have n3_:=am_ ((bs0_ hg HB.out:w.heap.size ≤ gb101)); clear HB; have HB:=n0_; have BK101:=n1_; have GW101:=n2_; have GE101:=n3_; clear n0_ n1_ n2_ n3_; clear hb hbox hg; have hcz12_0:w11.cell? ⟨gb101,0,none⟩ = some (.int .i64 a0_0):=(bc_ BK101.out 0).trans rfl; have hcz12_1:w11.cell? ⟨gb101,1,none⟩ = some (.int .i64 a0_1):=(bc_ BK101.out 1).trans rfl; have hcz12_2:w11.cell? ⟨gb101,2,none⟩ = some (.slice A0_2 l0_2.length c0_2):=(bc_ BK101.out 2).trans rfl; have hcz12_3:w11.cell? ⟨gb101,3,none⟩ = some (.slice A0_3 l0_3.length c0_3):=(bc_ BK101.out 3).trans rfl; have hfz12_0:=bz_ BK101.out 0; have hfz12_1:=bz_ BK101.out 1; have hfz12_2:=bz_ BK101.out 2; have hfz12_3:=bz_ BK101.out 3) | ((with_reducible refine gate_callee (f:=24) rfl ?_); refine goesL_ (some 8) rfl rfl Tryz.func24 (by kernel_rfl) rfl #[.slice A0_2 l0_2.length c0_2,.int .i64 a1] rfl ob_ ?_; (with_reducible refine (laws_szIntS.calls _ _ l0_2 a1 t102 _ ?side1 ?side2 A3.out).mono ?_); (case side1 => exact kc_ (Kd.C_below HR0_2.out HB.out)); (case side2 => exact HC0_2.out); rintro e w' ⟨rfl,⟨nd,rfl⟩⟩; refine ⟨_,rfl,?_⟩) | ((with_reducible refine gate_callee (f:=24) rfl ?_); refine goesL_ (some 14) rfl rfl Tryz.func24 (by kernel_rfl) rfl #[.slice A0_3 l0_3.length c0_3,.int .i64 t102] rfl ob_ ?_; (with_reducible refine (laws_szIntS.calls _ _ l0_3 t102 t103 _ ?side1 ?side2 A7.out).mono ?_); (case side1 => repeat (first | exact (Kd.C_below HR0_3.out (bl1_ HB.out GE101.out)) | (with_reducible refine Kd.C_alloc ?_ _) | (with_reducible refine Kd.C_drewN ?_ _) | (with_reducible refine Kd.C_drew ?_))); (case side2 => exact HC0_3.out); rintro e w' ⟨rfl,⟨nd,rfl⟩⟩; refine ⟨_,rfl,?_⟩))
   go_ret
   exact ⟨er_,bl1_ HB.out GE101.out⟩


mutual
def laws_toIntS.j0:Nat → List Int → Bool → Option (List Int)
 | 0,_,_ => none
 | k + 1,x0,x13 => if x13 = true then (some ([]:List Int)) else ((laws_roomBehind.f (x0.length:Int)).bind fun t213 => (if 0 ≤ (wrap64 ((x0.length:Int) + t213)) then (if (wrap64 ((x0.length:Int) + t213):Int).toNat ≤ 35184372088832 then (laws_toIntS.l0 k x0 (List.replicate (wrap64 ((x0.length:Int) + t213):Int).toNat 0) 0) else (none)) else (none)))
def laws_toIntS.l0:Nat → List Int → List Int → Int → Option (List Int)
 | 0,_,_,_ => none
 | k + 1,x0,x5,x6 => if x6 < (x0.length:Int) then (if 0 ≤ x6 then (if x6 < (x5.length:Int) then (laws_toIntS.l0 k x0 (x5.set (x6:Int).toNat (rd x0 x6)) (wrap64 (x6 + 1))) else (none)) else (none)) else (laws_toIntS.l1 k x0 x5 (x0.length:Int))
def laws_toIntS.l1:Nat → List Int → List Int → Int → Option (List Int)
 | 0,_,_,_ => none
 | k + 1,x0,x5,x7 => if x7 < (x5.length:Int) then (if 0 ≤ x7 then (laws_toIntS.l1 k x0 (x5.set (x7:Int).toNat (-7000000000000000101)) (wrap64 (x7 + 1))) else (none)) else (if 0 ≤ (x0.length:Int) then (if (x0.length:Int) ≤ (x5.length:Int) then (some (x5.take ((x0.length:Int):Int).toNat)) else (none)) else (none))
end
def laws_toIntS.f (k:Nat) (l0:List Int) (a1:Bool):Option (List Int):=if a1 = true then (laws_toIntS.j0 k l0 ((l0.length:Int) == 0)) else (laws_toIntS.j0 k l0 false)
theorem laws_toIntS.mono_l:∀ k,(∀ y0 y1,LeO (laws_toIntS.j0 k y0 y1) (laws_toIntS.j0 (k + 1) y0 y1)) ∧ (∀ y0 y1 y2,LeO (laws_toIntS.l0 k y0 y1 y2) (laws_toIntS.l0 (k + 1) y0 y1 y2)) ∧ (∀ y0 y1 y2,LeO (laws_toIntS.l1 k y0 y1 y2) (laws_toIntS.l1 (k + 1) y0 y1 y2))
 | 0 => ⟨fun _ _ r h => by simp [laws_toIntS.j0] at h,fun _ _ _ r h => by simp [laws_toIntS.l0] at h,fun _ _ _ r h => by simp [laws_toIntS.l1] at h⟩
 | k + 1 => by
  obtain ⟨ih0,ih1,ih2⟩:=laws_toIntS.mono_l k
  refine ⟨?_,?_,?_⟩
  ·intro y0 y1
   unfold laws_toIntS.j0
   repeat' first | (with_reducible first | exact ih0 _ _ | exact ih1 _ _ _ | exact ih2 _ _ _ | exact LeO.refl _ | exact LeO.none _ | refine LeO.ite ?_ ?_ | refine LeO.bind ?_ (fun _ => ?_)) | exact ih0 _ _ | exact ih1 _ _ _ | exact ih2 _ _ _
  ·intro y0 y1 y2
   unfold laws_toIntS.l0
   repeat' first | (with_reducible first | exact ih0 _ _ | exact ih1 _ _ _ | exact ih2 _ _ _ | exact LeO.refl _ | exact LeO.none _ | refine LeO.ite ?_ ?_ | refine LeO.bind ?_ (fun _ => ?_)) | exact ih0 _ _ | exact ih1 _ _ _ | exact ih2 _ _ _
  ·intro y0 y1 y2
   unfold laws_toIntS.l1
   repeat' first | (with_reducible first | exact ih0 _ _ | exact ih1 _ _ _ | exact ih2 _ _ _ | exact LeO.refl _ | exact LeO.none _ | refine LeO.ite ?_ ?_ | refine LeO.bind ?_ (fun _ => ?_)) | exact ih0 _ _ | exact ih1 _ _ _ | exact ih2 _ _ _
theorem laws_toIntS.mono:∀ a0 a1 k,LeO (laws_toIntS.f k a0 a1) (laws_toIntS.f (k + 1) a0 a1):=by
 intro a0 a1 k
 obtain ⟨ih0,ih1,ih2⟩:=laws_toIntS.mono_l k
 unfold laws_toIntS.f
 repeat' first | (with_reducible first | exact ih0 _ _ | exact ih1 _ _ _ | exact ih2 _ _ _ | exact LeO.refl _ | exact LeO.none _ | refine LeO.ite ?_ ?_ | refine LeO.bind ?_ (fun _ => ?_)) | exact ih0 _ _ | exact ih1 _ _ _ | exact ih2 _ _ _
set_option maxHeartbeats 8000000 in
set_option maxRecDepth 100000 in
theorem laws_toIntS.calls (k:Nat) (A0:Option Addr) (c0:Nat) (l0:List Int) (a1:Bool) (r:List Int) (w:World) (hr0:Kd.C (Kd.int .i64) w A0 l0.length l0) (hc0:l0.length ≤ c0) (h:laws_toIntS.f k l0 a1 = some r) :
  Calls Tryz.prog 26 #[.slice A0 l0.length c0,.bool a1] w fun e w' => ∃ v0_:Value,e = .returned (v0_) ∧ Kd.R (Kd.int .i64) 3 w' w.heap.size (fun _ => True) v0_ r ∧ Below w.heap.size w w':=by
 have HR0:=am_ hr0
 have HC0:=am_ hc0
 clear hr0 hc0
 have HB:=am_ (Below.refl w.heap.size w)
 have H:(if a1 = true then (laws_toIntS.j0 k l0 ((l0.length:Int) == 0)) else (laws_toIntS.j0 k l0 false)) = some r:=h
 clear h
 have HC3:=am_ H
 clear H
 go_enter Tryz.func26,Tryz.ntmps26
 go_upto_region 1 with (fail)
 go_cut [13] (fun v13 wc => ∃ (kq:Nat) (x13_2:Bool),v13 = .bool x13_2 ∧ Aside0 (laws_toIntS.j0 kq l0 x13_2 = some r) ∧ Aside0 (kq ≤ k) ∧ Aside0 (Below w.heap.size w wc))
 case first =>
  have H:=HC3.out
  clear HC3
  by_cases c4:a1 = true
  ·subst c4
   have H1:(laws_toIntS.j0 k l0 ((l0.length:Int) == 0)) = some r:=by rw [if_pos rfl] at H; exact H
   clear H
   have H:=H1
   clear H1
   have H':=am_ H
   clear H
   go_wp2
   go_meet
   case rel => exact ⟨_,(((l0.length:Int) == 0)),rs_,H',⟨by first | omega | exact Nat.le_refl _⟩,⟨bl0_ HB.out⟩⟩
  ·replace c4:=Bool.eq_false_iff.mpr c4
   subst c4
   have H1:(laws_toIntS.j0 k l0 false) = some r:=by rw [if_neg (show ¬ (false = true) by decide)] at H; exact H
   clear H
   have H:=H1
   clear H1
   have H':=am_ H
   clear H
   go_wp2
   go_meet
   case rel => exact ⟨_,(false),rs_,H',⟨by first | omega | exact Nat.le_refl _⟩,⟨bl0_ HB.out⟩⟩
 case rest =>
  clear HC3
  try clear c2
  try clear p2
  try clear c4
  obtain ⟨kq,x13_2,rfl,HA,HJ2,HB⟩:=hcut
  cases kq with
  | zero => exact absurd HA.out (by simp [laws_toIntS.j0])
  | succ kj2 =>
   have H:=HA.out
   clear HA
   simp only [laws_toIntS.j0] at H
   by_cases c5:x13_2 = true
   ·subst c5
    have H1:(some ([]:List Int)) = some r:=by rw [if_pos rfl] at H; exact H
    clear H
    have H:=H1
    clear H1
    obtain rfl:=Option.some.inj H
    go_wp2
    go_ret
    exact ⟨_,er_,by first | exact Kd.R_nil _ _ _ _ _ | exact Kd.N_nil _ _ _ _ _ | exact Kd.V_nil _ _ _ _ _ | exact Kd.Q_nil _ _ _ _ _ | exact Kd.S_nil _ _ _ _ _,bl0_ HB.out⟩
   ·replace c5:=Bool.eq_false_iff.mpr c5
    subst c5
    have H1:((laws_roomBehind.f (l0.length:Int)).bind fun t213 => (if 0 ≤ (wrap64 ((l0.length:Int) + t213)) then (if (wrap64 ((l0.length:Int) + t213):Int).toNat ≤ 35184372088832 then (laws_toIntS.l0 kj2 l0 (List.replicate (wrap64 ((l0.length:Int) + t213):Int).toNat 0) 0) else (none)) else (none))) = some r:=by rw [if_neg (show ¬ (false = true) by decide)] at H; exact H
    clear H
    have H:=H1
    clear H1
    replace H:=bi_ H
    obtain ⟨t213,A60,H⟩:=H
    replace H:(if 0 ≤ (wrap64 ((l0.length:Int) + t213)) then (if (wrap64 ((l0.length:Int) + t213):Int).toNat ≤ 35184372088832 then (laws_toIntS.l0 kj2 l0 (List.replicate (wrap64 ((l0.length:Int) + t213):Int).toNat 0) 0) else (none)) else (none)) = some r:=H
    have A6:=am_ A60
    clear A60
    obtain ⟨ji7,hji7⟩:∃ j_:Int,(wrap64 ((l0.length:Int) + t213)) = j_:=⟨_,rfl⟩
    replace H:(if 0 ≤ (ji7) then (if (ji7:Int).toNat ≤ 35184372088832 then (laws_toIntS.l0 kj2 l0 (List.replicate (ji7:Int).toNat 0) 0) else (none)) else (none)) = some r:=by first | (rw [hji7] at H; exact H) | (simp only [hji7] at H ⊢; exact H)
    (try rw [hji7] at A6)
    have hji7w:(IntKind.i64.wrap ((l0.length:Int) + t213)) = ji7:=(i64_w _).trans hji7
    by_cases c8:0 ≤ (ji7)
    ·rw [if_pos c8] at H
     have c8b0:=eq_true c8
     have c8b1:decide (0 ≤ (ji7)) = true:=decide_eq_true c8
     clear c8
     by_cases c9:(ji7:Int).toNat ≤ 35184372088832
     ·rw [if_pos c9] at H
      have c9b0:=eq_true c9
      have c9b1:decide ((ji7:Int).toNat ≤ 35184372088832) = true:=decide_eq_true c9
      clear c9
      obtain ⟨y214,hy214⟩:∃ y_:List Int,y_ = (List.replicate (ji7:Int).toNat 0):=⟨_,rfl⟩
      replace H:(laws_toIntS.l0 kj2 l0 y214 0) = some r:=by first | (rw [hy214]; with_reducible exact H) | (have H2_:=(Option.bind_some _ _).symm.trans H; rw [hy214]; with_reducible exact H2_) | (have H2_:=(Option.bind_some _ _).symm.trans H; with_reducible exact H2_) | with_reducible exact H | (rw [hy214]; exact H) | exact H
      have Ny214:=am_ hy214
      clear hy214
      have H':=am_ H
      clear H
      go_wp2_with (first | ((with_reducible refine gate_callee (f:=39) rfl ?_); refine goesL_ (some 18) rfl rfl Tryz.func39 (by kernel_rfl) rfl #[.int .i64 (l0.length:Int)] rfl ob_ ?_; (with_reducible refine (laws_roomBehind.calls (l0.length:Int) t213 _ A6.out).mono ?_); rintro e w' ⟨rfl,⟨nd,rfl⟩⟩; refine ⟨_,rfl,?_⟩) | ((with_reducible refine gate_dst (N:=20) rfl ?_); (try (refine gate_guard (by rfl) ?_; dsimp only)); refine Kd.R_make (Kd.int .i64) _ 3 rfl (N:=20) rfl 22 _ _ rfl ji7 rfl rfl Tryz.underlying22 (.int .i64 0) 8 info3 rfl (by decide) (by omega) 0 (ok:=fun _ => True) (okp:=fun _ => True) rfl (fun _ hk => hk) trivial (of_decide_eq_true as_) (Nat.le_trans (Nat.mul_le_mul_right _ (of_decide_eq_true as_:ji7.toNat ≤ 35184372088832)) (by omega)) (Below.refl _ _) (Nat.le_refl _) ?_; intro v215 w10 ho11 hb hg_ hnew_; clear hg_ hnew_; (first | rw [← Ny214.out] at ho11 | (simp only [Int.reduceToNat] at ho11; rw [← Ny214.out] at ho11)); have n0_:=am_ (Kd.R_lower ho11 (below_size (bl0_ HB.out))); have n1_:=am_ (below_step (bl0_ HB.out) hb); clear HB; have HO216:=n0_; have HB:=n1_; clear n0_ n1_; clear hb ho11))
      go_loopg [6] kj2 (fun kq v6 w' => ∃ (x5_2:List Int) (x6_2:Int),v6 = .int .i64 x6_2 ∧ Aside0 (laws_toIntS.l0 kq l0 x5_2 x6_2 = some r) ∧ Aside0 (kq ≤ kj2) ∧ Aside0 (Kd.R (Kd.int .i64) 3 w' w.heap.size (fun _ => True) v215 x5_2) ∧ Aside0 (Below w.heap.size w w'))
      case atStart => exact ⟨(y214),(0),rs_,H',⟨Nat.le_refl _⟩,⟨kr_ HO216.out⟩,⟨bl0_ HB.out⟩⟩
      case round =>
       clear H'
       try clear c2
       try clear p2
       try clear c3
       try clear c4
       try clear c5
       try clear p6
       try clear c8
       try clear c8b0
       try clear c8b1
       try clear c9
       try clear c9b0
       try clear c9b1
       try clear p2
       obtain ⟨x5_2,x6_2,rfl,HA,HK2,HO_5,HB⟩:=hrel
       cases gk with
       | zero => exact absurd HA.out (by simp [laws_toIntS.l0])
       | succ k2 =>
        have H:=HA.out
        clear HA
        simp only [laws_toIntS.l0] at H
        by_cases c12:x6_2 < (l0.length:Int)
        ·rw [if_pos c12] at H
         have c12b0:decide (x6_2 < (l0.length:Int)) = true:=decide_eq_true c12
         clear c12
         by_cases c13:0 ≤ x6_2
         ·rw [if_pos c13] at H
          have c13b0:decide (0 ≤ x6_2) = true:=decide_eq_true c13
          clear c13
          by_cases c14:x6_2 < (x5_2.length:Int)
          ·rw [if_pos c14] at H
           have c14b0:decide (x6_2 < (x5_2.length:Int)) = true:=decide_eq_true c14
           clear c14
           obtain ⟨y218,hy218⟩:∃ y_:List Int,y_ = (x5_2.set (x6_2:Int).toNat (rd l0 x6_2)):=⟨_,rfl⟩
           replace H:(laws_toIntS.l0 k2 l0 y218 (wrap64 (x6_2 + 1))) = some r:=by first | (rw [hy218]; with_reducible exact H) | (have H2_:=(Option.bind_some _ _).symm.trans H; rw [hy218]; with_reducible exact H2_) | (have H2_:=(Option.bind_some _ _).symm.trans H; with_reducible exact H2_) | with_reducible exact H | (rw [hy218]; exact H) | exact H
           have Ny218:=am_ hy218
           clear hy218
           have H':=am_ H
           clear H
           have p217:0 ≤ (x6_2:Int):=of_decide_eq_true as_
           have q217:x6_2 < (l0.length:Int):=of_decide_eq_true as_
           obtain ⟨ad217,e217,hx217_0⟩:=Kd.at_int HR0.out x6_2 p217 q217
           cases e217
           replace hx217_0:=(HB.out.cell (wl_ w _ hx217_0)).trans hx217_0
           replace p217:=eq_true p217
           replace q217:=eq_true q217
           have p15:0 ≤ (x6_2:Int):=of_decide_eq_true as_
           have q15:(x6_2:Int) < ((x5_2.length:Int):Int):=of_decide_eq_true as_
           obtain ⟨go15,co15,eo15,gb15,gl15,cl15,HG15⟩:=Kd.R_form HO_5.out (by omega)
           (first | cases eo15 | (injection eo15 with ea_ en_ ec_; (first | subst ea_ | (injection ea_ with ea_; subst ea_)); subst ec_; clear en_))
           have GB15:=am_ gb15
           have GG15:=am_ HG15
           clear gb15 gl15 HG15
           obtain ⟨hx15_0,hf15_0⟩:=Kd.R_celln 0 HO_5.out (x6_2:Int) p15 q15
           replace p15:=eq_true p15
           replace q15:=eq_true q15
           have HP16:=Kd.R_putg HO_5.out (x6_2:Int) (rd l0 x6_2)
           go_wp2_with (first | ((with_reducible refine gate_store (t:=3) (p:=33) rfl ?_); refine store_event (t:=3) (p:=33) (v:=?vo_w17) (w1:=(wr.setCell ⟨go15,(x6_2:Int).toNat,none⟩ (.int .i64 (rd l0 x6_2)))) ?hg ?ho ?hn ?hr ?_; (case ho => rfl); (case hg => rfl); (case hn => rfl); (case hr => first | (go_simp; done) | (go_simp; rfl)); intro w17 hw; have hg:wr.grownBy w17 (some go15):=(by rw [hw]; exact HP16.2); have hp_:Kd.R (Kd.int .i64) 3 w17 w.heap.size (fun _ => True) (.slice (some ⟨go15,0,none⟩) x5_2.length co15) y218:=(by rw [hw,Ny218.out]; exact HP16.1); clear HP16; have n0_:=am_ (hp_); have n1_:=am_ ((by rw [hw]; exact below_set (HB.out) GB15.out:Below w.heap.size w w17)); clear HO_5; clear HB; have HO_5:=n0_; have HB:=n1_; clear n0_ n1_; clear hg hw hp_))
           go_roundg k2
           case measure => have:=HJ2.out; have:=HK2.out; omega
           case rel => exact ⟨(y218),(wrap64 (x6_2 + 1)),rs_,H',⟨by have:=HJ2.out; have:=HK2.out; omega⟩,⟨kr_ HO_5.out⟩,⟨bl0_ HB.out⟩⟩
          ·rw [if_neg c14] at H
           exact absurd H (by simp)
         ·rw [if_neg c13] at H
          exact absurd H (by simp)
        ·rw [if_neg c12] at H
         have c12b0:decide (x6_2 < (l0.length:Int)) = false:=decide_eq_false c12
         clear c12
         have H':=am_ H
         clear H
         go_wp2
         go_loopg [7] k2 (fun kq v7 w' => ∃ (x5_3:List Int) (x7_3:Int),v7 = .int .i64 x7_3 ∧ Aside0 (laws_toIntS.l1 kq l0 x5_3 x7_3 = some r) ∧ Aside0 (kq ≤ k2) ∧ Aside0 (Kd.R (Kd.int .i64) 3 w' w.heap.size (fun _ => True) v215 x5_3) ∧ Aside0 (Below w.heap.size w w'))
         case atStart => exact ⟨(x5_2),((l0.length:Int)),rs_,H',⟨Nat.le_refl _⟩,⟨kr_ HO_5.out⟩,⟨bl0_ HB.out⟩⟩
         case round =>
          clear H'
          try clear c1
          try clear p1
          try clear q1
          try clear hx1
          try clear c2
          try clear p2
          try clear q2
          try clear hx2
          try clear c3
          try clear c4
          try clear c5
          try clear p6
          try clear c8
          try clear c8b0
          try clear c8b1
          try clear c9
          try clear c9b0
          try clear c9b1
          try clear c12
          try clear c12b0
          try clear c13
          try clear c13b0
          try clear c14
          try clear c14b0
          try clear p15
          try clear q15
          try clear hx15
          try clear hf15
          try clear hx15_0
          try clear hx217_0
          try clear p15
          try clear p2
          try clear p217
          try clear p6
          try clear q15
          try clear q217
          obtain ⟨x5_3,x7_3,rfl,HA,HK3,HO_5,HB⟩:=hrel
          cases gk with
          | zero => exact absurd HA.out (by simp [laws_toIntS.l1])
          | succ k3 =>
           have H:=HA.out
           clear HA
           simp only [laws_toIntS.l1] at H
           by_cases c18:x7_3 < (x5_3.length:Int)
           ·rw [if_pos c18] at H
            have c18b0:decide (x7_3 < (x5_3.length:Int)) = true:=decide_eq_true c18
            clear c18
            by_cases c19:0 ≤ x7_3
            ·rw [if_pos c19] at H
             have c19b0:decide (0 ≤ x7_3) = true:=decide_eq_true c19
             clear c19
             obtain ⟨y219,hy219⟩:∃ y_:List Int,y_ = (x5_3.set (x7_3:Int).toNat (-7000000000000000101)):=⟨_,rfl⟩
             replace H:(laws_toIntS.l1 k3 l0 y219 (wrap64 (x7_3 + 1))) = some r:=by first | (rw [hy219]; with_reducible exact H) | (have H2_:=(Option.bind_some _ _).symm.trans H; rw [hy219]; with_reducible exact H2_) | (have H2_:=(Option.bind_some _ _).symm.trans H; with_reducible exact H2_) | with_reducible exact H | (rw [hy219]; exact H) | exact H
             have Ny219:=am_ hy219
             clear hy219
             have H':=am_ H
             clear H
             obtain ⟨Ao21,co21,eo21⟩:=Kd.R_slice HO_5.out
             subst eo21
             have p20:0 ≤ (x7_3:Int):=of_decide_eq_true as_
             have q20:(x7_3:Int) < ((x5_3.length:Int):Int):=of_decide_eq_true as_
             obtain ⟨go20,co20,eo20,gb20,gl20,cl20,HG20⟩:=Kd.R_form HO_5.out (by omega)
             (first | cases eo20 | (injection eo20 with ea_ en_ ec_; (first | subst ea_ | (injection ea_ with ea_; subst ea_)); subst ec_; clear en_))
             have GB20:=am_ gb20
             have GG20:=am_ HG20
             clear gb20 gl20 HG20
             obtain ⟨hx20_0,hf20_0⟩:=Kd.R_celln 0 HO_5.out (x7_3:Int) p20 q20
             replace p20:=eq_true p20
             replace q20:=eq_true q20
             have HP22:=Kd.R_putg HO_5.out (x7_3:Int) (-7000000000000000101)
             go_wp2_with (first | ((with_reducible refine gate_store (t:=3) (p:=44) rfl ?_); refine store_event (t:=3) (p:=44) (v:=?vo_w23) (w1:=(wr.setCell ⟨go20,(x7_3:Int).toNat,none⟩ (.int .i64 (-7000000000000000101)))) ?hg ?ho ?hn ?hr ?_; (case ho => rfl); (case hg => rfl); (case hn => rfl); (case hr => first | (go_simp; done) | (go_simp; rfl)); intro w23 hw; have hg:wr.grownBy w23 (some go20):=(by rw [hw]; exact HP22.2); have hp_:Kd.R (Kd.int .i64) 3 w23 w.heap.size (fun _ => True) (.slice (some ⟨go20,0,none⟩) x5_3.length co21) y219:=(by rw [hw,Ny219.out]; exact HP22.1); clear HP22; have n0_:=am_ (hp_); have n1_:=am_ ((by rw [hw]; exact below_set (HB.out) GB20.out:Below w.heap.size w w23)); clear HO_5; clear HB; have HO_5:=n0_; have HB:=n1_; clear n0_ n1_; clear hg hw hp_))
             go_roundg k3
             case measure => have:=HJ2.out; have:=HK2.out; have:=HK3.out; omega
             case rel => exact ⟨(y219),(wrap64 (x7_3 + 1)),rs_,H',⟨by have:=HJ2.out; have:=HK2.out; have:=HK3.out; omega⟩,⟨kr_ HO_5.out⟩,⟨bl0_ HB.out⟩⟩
            ·rw [if_neg c19] at H
             exact absurd H (by simp)
           ·rw [if_neg c18] at H
            have c18b0:decide (x7_3 < (x5_3.length:Int)) = false:=decide_eq_false c18
            clear c18
            by_cases c24:0 ≤ (l0.length:Int)
            ·rw [if_pos c24] at H
             have c24b0:=eq_true c24
             have c24b1:decide (0 ≤ (l0.length:Int)) = true:=decide_eq_true c24
             clear c24
             by_cases c25:(l0.length:Int) ≤ (x5_3.length:Int)
             ·rw [if_pos c25] at H
              have c25b0:=eq_true c25
              have c25b1:decide ((l0.length:Int) ≤ (x5_3.length:Int)) = true:=decide_eq_true c25
              clear c25
              obtain ⟨y220,hy220⟩:∃ y_:List Int,y_ = (x5_3.take ((l0.length:Int):Int).toNat):=⟨_,rfl⟩
              replace H:(some y220) = some r:=by first | (rw [hy220]; with_reducible exact H) | (have H2_:=(Option.bind_some _ _).symm.trans H; rw [hy220]; with_reducible exact H2_) | (have H2_:=(Option.bind_some _ _).symm.trans H; with_reducible exact H2_) | with_reducible exact H | (rw [hy220]; exact H) | exact H
              have Ny220:=am_ hy220
              clear hy220
              obtain rfl:=Option.some.inj H
              obtain ⟨Ao26,co26,eo26⟩:=Kd.R_slice HO_5.out
              subst eo26
              have q27:((l0.length:Int):Int) ≤ ((x5_3.length:Int):Int):=of_decide_eq_true as_
              obtain ⟨i027,hi027,_,hsz27,_⟩:=info_parts info3
              have hcut27:=cut_to (P:=Tryz.prog) 22 3 .i64 Tryz.underlying22 hi027 Ao26 x5_3.length co26 (l0.length:Int) (of_decide_eq_true as_) q27 (Kd.R_reads' HO_5.out).2.1
              have hr27:=Kd.R_take (m:=((l0.length:Int):Int).toNat) HO_5.out (by omega)
              have hy27:y220.length = ((l0.length:Int):Int).toNat:=(by rw [Ny220.out,List.length_take]; omega)
              rw [← Ny220.out] at hr27
              rw [← hy27] at hr27 hcut27
              clear hy27 hi027 hsz27 HO_5
              have HO222:=am_ hr27
              clear hr27
              replace q27:=eq_true q27
              go_wp2
              go_ret
              exact ⟨_,by first | rfl | (simp [errW_none,errW_some] <;> rfl) | (simp only [← hji7]; first | rfl | (simp [errW_none,errW_some] <;> rfl)) | (simp [*,errW_none,errW_some] <;> rfl),by (with_reducible repeat (first | apply Kd.R_alloc | apply Kd.R_drewN | apply Kd.R_drew)); exact HO222.out,bl0_ HB.out⟩
             ·rw [if_neg c25] at H
              exact absurd H (by simp)
            ·rw [if_neg c24] at H
             exact absurd H (by simp)
     ·rw [if_neg c9] at H
      exact absurd H (by simp)
    ·rw [if_neg c8] at H
     exact absurd H (by simp)


def laws_toFigure.f (k:Nat) (a0_0:Int) (a0_1:Int) (l0_2:List Int) (l0_3:List Int) (a1:Bool):Option (Int × Int × List Int × List Int):=(laws_toIntS.f k l0_2 a1).bind fun t226 => ((laws_toIntS.f k l0_3 a1).bind fun t229 => (some (a0_0,a0_1,t226,t229)))
theorem laws_toFigure.mono:∀ a0 a1 a2 a3 a4 k,LeO (laws_toFigure.f k a0 a1 a2 a3 a4) (laws_toFigure.f (k + 1) a0 a1 a2 a3 a4):=by
 intro a0 a1 a2 a3 a4 k
 unfold laws_toFigure.f
 repeat' first | (with_reducible first | exact laws_toIntS.mono _ _ _ | exact LeO.refl _ | exact LeO.none _ | refine LeO.ite ?_ ?_ | refine LeO.bind ?_ (fun _ => ?_)) | exact laws_toIntS.mono _ _ _
set_option maxHeartbeats 8000000 in
set_option maxRecDepth 100000 in
theorem laws_toFigure.calls (k:Nat) (a0_0:Int) (a0_1:Int) (A0_2:Option Addr) (c0_2:Nat) (l0_2:List Int) (A0_3:Option Addr) (c0_3:Nat) (l0_3:List Int) (a1:Bool) (r1:Int) (r2:Int) (r3:List Int) (r4:List Int) (w:World) (hr0_2:Kd.C (Kd.int .i64) w A0_2 l0_2.length l0_2) (hc0_2:l0_2.length ≤ c0_2) (hr0_3:Kd.C (Kd.int .i64) w A0_3 l0_3.length l0_3) (hc0_3:l0_3.length ≤ c0_3) (h:laws_toFigure.f k a0_0 a0_1 l0_2 l0_3 a1 = some (r1,r2,r3,r4)) :
  Calls Tryz.prog 9 #[.agg #[.int .i64 a0_0,.int .i64 a0_1,.slice A0_2 l0_2.length c0_2,.slice A0_3 l0_3.length c0_3],.bool a1] w fun e w' => ∃ v2_ v3_:Value,e = .returned (.agg #[.int .i64 r1,.int .i64 r2,v2_,v3_]) ∧ Kd.R (Kd.int .i64) 3 w' w.heap.size (fun k_ => some k_ ≠ (v3_:Value).ownBlock) v2_ r3 ∧ Kd.R (Kd.int .i64) 3 w' w.heap.size (fun k_ => some k_ ≠ (v2_:Value).ownBlock) v3_ r4 ∧ Below w.heap.size w w':=by
 have hu24:=Tryz.underlying24
 have hu26:=Tryz.underlying26
 have HR0_2:=am_ hr0_2
 have HC0_2:=am_ hc0_2
 clear hr0_2 hc0_2
 have HR0_3:=am_ hr0_3
 have HC0_3:=am_ hc0_3
 clear hr0_3 hc0_3
 have HB:=am_ (Below.refl w.heap.size w)
 have H:((laws_toIntS.f k l0_2 a1).bind fun t226 => ((laws_toIntS.f k l0_3 a1).bind fun t229 => (some (a0_0,a0_1,t226,t229)))) = some (r1,r2,r3,r4):=h
 clear h
 replace H:=bi_ H
 obtain ⟨t226,A30,H⟩:=H
 replace H:((laws_toIntS.f k l0_3 a1).bind fun t229 => (some (a0_0,a0_1,t226,t229))) = some (r1,r2,r3,r4):=H
 have A3:=am_ A30
 clear A30
 replace H:=bi_ H
 obtain ⟨t229,A40,H⟩:=H
 replace H:(some (a0_0,a0_1,t226,t229)) = some (r1,r2,r3,r4):=H
 have A4:=am_ A40
 clear A40
 simp only [Option.some.injEq,Prod.mk.injEq] at H
 obtain ⟨rfl,rfl,rfl,rfl⟩:=H
 go_enter Tryz.func9,Tryz.ntmps9
 go_wp2_with (first | ((with_reducible refine gate_dst (N:=2) rfl ?_); refine boxE_ (N:=2) (cs:=#[.int .i64 a0_0,.int .i64 a0_1,.slice A0_2 l0_2.length c0_2,.slice A0_3 l0_3.length c0_3]) (t:=24) ?_; intro gb223 hg w5 hbox hb; have n0_:=am_ (below_step (bl0_ HB.out) hb); have n1_:=am_ (hbox); have n2_:=am_ ((bs0_ hg HB.out:w.heap.size ≤ gb223)); have n3_:=am_ ((bs0_ hg HB.out:w.heap.size ≤ gb223)); clear HB; have HB:=n0_; have BK223:=n1_; have GW223:=n2_; have GE223:=n3_; clear n0_ n1_ n2_ n3_; clear hb hbox hg) | ((with_reducible refine gate_dst (N:=4) rfl ?_); refine boxE_ (N:=4) (cs:=#[.int .i64 0,.int .i64 0,.slice none 0 0,.slice none 0 0]) (t:=26) ?_; intro gb224 hg w6 hbox hb; have n0_:=am_ (bb_ BK223.out hb); have n1_:=am_ (below_step (bl1_ HB.out GE223.out) hb); have n2_:=am_ (hbox); have n3_:=am_ ((bs1_ hg HB.out GE223.out:w.heap.size ≤ gb224)); have n4_:=am_ ((bs1_ hg HB.out GE223.out:w.heap.size ≤ gb224)); have n5_:=am_ ((nl_ hg BK223.out:gb223 ≠ gb224)); have n6_:=am_ ((ng_ hg BK223.out:gb224 ≠ gb223)); clear BK223; clear HB; have BK223:=n0_; have HB:=n1_; have BK224:=n2_; have GW224:=n3_; have GE224:=n4_; have NB223_224:=n5_; have NB224_223:=n6_; clear n0_ n1_ n2_ n3_ n4_ n5_ n6_; clear hb hbox hg) | ((with_reducible refine gate_dst (N:=5) rfl ?_); refine boxE_ (N:=5) (cs:=#[.int .i64 0,.int .i64 0,.slice none 0 0,.slice none 0 0]) (t:=26) ?_; intro gb225 hg w7 hbox hb; have n0_:=am_ (bb_ BK223.out hb); have n1_:=am_ (bb_ BK224.out hb); have n2_:=am_ (below_step (bl2_ HB.out GE223.out GE224.out) hb); have n3_:=am_ (hbox); have n4_:=am_ ((bs2_ hg HB.out GE223.out GE224.out:w.heap.size ≤ gb225)); have n5_:=am_ ((bs2_ hg HB.out GE223.out GE224.out:w.heap.size ≤ gb225)); have n6_:=am_ ((nl_ hg BK223.out:gb223 ≠ gb225)); have n7_:=am_ ((ng_ hg BK223.out:gb225 ≠ gb223)); have n8_:=am_ ((nl_ hg BK224.out:gb224 ≠ gb225)); have n9_:=am_ ((ng_ hg BK224.out:gb225 ≠ gb224)); clear BK223; clear BK224; clear HB; have BK223:=n0_; have BK224:=n1_; have HB:=n2_; have BK225:=n3_; have GW225:=n4_; have GE225:=n5_; have NB223_225:=n6_; have NB225_223:=n7_; have NB224_225:=n8_; have NB225_224:=n9_; clear n0_ n1_ n2_ n3_ n4_ n5_ n6_ n7_ n8_ n9_; clear hb hbox hg; have hnb8:=NB223_224.out; have hnc8:=NB224_223.out; have hnb9:=NB223_225.out; have hnc9:=NB225_223.out; have hcz10_0:w7.cell? ⟨gb223,0,none⟩ = some (.int .i64 a0_0):=(bc_ BK223.out 0).trans rfl; have hcz10_1:w7.cell? ⟨gb223,1,none⟩ = some (.int .i64 a0_1):=(bc_ BK223.out 1).trans rfl; have hcz10_2:w7.cell? ⟨gb223,2,none⟩ = some (.slice A0_2 l0_2.length c0_2):=(bc_ BK223.out 2).trans rfl; have hcz10_3:w7.cell? ⟨gb223,3,none⟩ = some (.slice A0_3 l0_3.length c0_3):=(bc_ BK223.out 3).trans rfl; have hfz10_0:=bz_ BK223.out 0; have hfz10_1:=bz_ BK223.out 1; have hfz10_2:=bz_ BK223.out 2; have hfz10_3:=bz_ BK223.out 3; have hnb11:=NB225_224.out; have hnc11:=NB224_225.out; have hcz12_0:w7.cell? ⟨gb225,0,none⟩ = some (.int .i64 0):=(bc_ BK225.out 0).trans rfl; have hcz12_1:w7.cell? ⟨gb225,1,none⟩ = some (.int .i64 0):=(bc_ BK225.out 1).trans rfl; have hcz12_2:w7.cell? ⟨gb225,2,none⟩ = some (.slice none 0 0):=(bc_ BK225.out 2).trans rfl; have hcz12_3:w7.cell? ⟨gb225,3,none⟩ = some (.slice none 0 0):=(bc_ BK225.out 3).trans rfl; have hfz12_0:=bz_ BK225.out 0; have hfz12_1:=bz_ BK225.out 1; have hfz12_2:=bz_ BK225.out 2; have hfz12_3:=bz_ BK225.out 3) | ((with_reducible refine gate_callee (f:=26) rfl ?_); refine goesL_ (some 15) rfl rfl Tryz.func26 (by kernel_rfl) rfl #[.slice A0_2 l0_2.length c0_2,.bool a1] rfl ob_ ?_; (with_reducible refine (laws_toIntS.calls k _ _ l0_2 a1 t226 _ ?side1 ?side2 A3.out).mono ?_); (case side1 => exact Kd.C_below HR0_2.out (bl3_ HB.out GE223.out GE224.out GE225.out)); (case side2 => exact HC0_2.out); rintro e w13 ⟨v227,rfl,ho0,hb⟩; refine ⟨_,rfl,?_⟩; have n0_:=am_ (Kd.R_lower ho0 (below_size (bl3_ HB.out GE223.out GE224.out GE225.out))); have n1_:=am_ (blk_below (g:=gb223) (o:=.cells #[.int .i64 a0_0,.int .i64 a0_1,.slice A0_2 l0_2.length c0_2,.slice A0_3 l0_3.length c0_3] 24 (0,0)) (bf2_ NB223_225.out NB223_225.out BK223.out) hb); have n2_:=am_ (blk_below (g:=gb224) (o:=.cells #[.int .i64 0,.int .i64 0,.slice none 0 0,.slice none 0 0] 26 (0,0)) (bf2_ NB224_225.out NB224_225.out BK224.out) hb); have n3_:=am_ (blk_below (g:=gb225) (o:=.cells #[.int .i64 a0_0,.int .i64 a0_1,.slice none 0 0,.slice none 0 0] 26 (0,0)) (by (with_reducible repeat (first | refine blk_drewN ?_ _ | refine blk_drew ?_ | refine blk_alloc ?_ _)); refine blk_put (cs:=#[.int .i64 a0_0,.int .i64 0,.slice none 0 0,.slice none 0 0]) ?_ 1 _ rfl; (with_reducible repeat (first | refine blk_drewN ?_ _ | refine blk_drew ?_ | refine blk_alloc ?_ _)); refine blk_put (cs:=#[.int .i64 0,.int .i64 0,.slice none 0 0,.slice none 0 0]) ?_ 0 _ rfl; (with_reducible repeat (first | refine blk_drewN ?_ _ | refine blk_drew ?_ | refine blk_alloc ?_ _)); exact BK225.out) hb); have n4_:=am_ (below_step (bl3_ HB.out GE223.out GE224.out GE225.out) hb); clear BK223; clear BK224; clear BK225; clear HB; have HO228:=n0_; have BK223:=n1_; have BK224:=n2_; have BK225:=n3_; have HB:=n4_; clear n0_ n1_ n2_ n3_ n4_; (try clear hb); (try clear hb2); (try clear hk); (try clear hi); (try clear ho0); obtain ⟨Ao14,co14,eo14⟩:=Kd.R_slice HO228.out; subst eo14; have hcz15_0:w13.cell? ⟨gb225,0,none⟩ = some (.int .i64 a0_0):=(bc_ BK225.out 0).trans rfl; have hcz15_1:w13.cell? ⟨gb225,1,none⟩ = some (.int .i64 a0_1):=(bc_ BK225.out 1).trans rfl; have hcz15_2:w13.cell? ⟨gb225,2,none⟩ = some (.slice none 0 0):=(bc_ BK225.out 2).trans rfl; have hcz15_3:w13.cell? ⟨gb225,3,none⟩ = some (.slice none 0 0):=(bc_ BK225.out 3).trans rfl; have hfz15_0:=bz_ BK225.out 0; have hfz15_1:=bz_ BK225.out 1; have hfz15_2:=bz_ BK225.out 2; have hfz15_3:=bz_ BK225.out 3; have hcz16_0:w13.cell? ⟨gb223,0,none⟩ = some (.int .i64 a0_0):=(bc_ BK223.out 0).trans rfl; have hcz16_1:w13.cell? ⟨gb223,1,none⟩ = some (.int .i64 a0_1):=(bc_ BK223.out 1).trans rfl; have hcz16_2:w13.cell? ⟨gb223,2,none⟩ = some (.slice A0_2 l0_2.length c0_2):=(bc_ BK223.out 2).trans rfl; have hcz16_3:w13.cell? ⟨gb223,3,none⟩ = some (.slice A0_3 l0_3.length c0_3):=(bc_ BK223.out 3).trans rfl; have hfz16_0:=bz_ BK223.out 0; have hfz16_1:=bz_ BK223.out 1; have hfz16_2:=bz_ BK223.out 2; have hfz16_3:=bz_ BK223.out 3) | ((with_reducible refine gate_callee (f:=26) rfl ?_); refine goesL_ (some 20) rfl rfl Tryz.func26 (by kernel_rfl) rfl #[.slice A0_3 l0_3.length c0_3,.bool a1] rfl ob_ ?_; (with_reducible refine (laws_toIntS.calls k _ _ l0_3 a1 t229 _ ?side1 ?side2 A4.out).mono ?_); (case side1 => exact Kd.C_below HR0_3.out (bl3_ HB.out GE223.out GE224.out GE225.out)); (case side2 => exact HC0_3.out); rintro e w17 ⟨v230,rfl,ho0,hb⟩; refine ⟨_,rfl,?_⟩; have n0_:=am_ (Kd.R_elder' (by (with_reducible repeat (first | apply Kd.R_alloc | apply Kd.R_drewN | apply Kd.R_drew)); exact (Kd.R_mono (Kd.R_far (p:=⟨gb225,2,none⟩) (Kd.R_types HO228.out BK225.out (by decide)) (fun _ hk => hk.2) (.slice Ao14 t226.length co14)) (fun _ h_ => h_.1))) (Kd.R_base ho0) hb); have n1_:=am_ (Kd.R_lower (Kd.R_new' ho0 (Kd.R_lt (by (with_reducible repeat (first | apply Kd.R_alloc | apply Kd.R_drewN | apply Kd.R_drew)); exact (Kd.R_mono (Kd.R_far (p:=⟨gb225,2,none⟩) (Kd.R_types HO228.out BK225.out (by decide)) (fun _ hk => hk.2) (.slice Ao14 t226.length co14)) (fun _ h_ => h_.1))))) (below_size (bl3_ HB.out GE223.out GE224.out GE225.out))); have n2_:=am_ (blk_below (g:=gb223) (o:=.cells #[.int .i64 a0_0,.int .i64 a0_1,.slice A0_2 l0_2.length c0_2,.slice A0_3 l0_3.length c0_3] 24 (0,0)) (bf1_ NB223_225.out BK223.out) hb); have n3_:=am_ (blk_below (g:=gb224) (o:=.cells #[.int .i64 0,.int .i64 0,.slice none 0 0,.slice none 0 0] 26 (0,0)) (bf1_ NB224_225.out BK224.out) hb); have n4_:=am_ (blk_below (g:=gb225) (o:=.cells #[.int .i64 a0_0,.int .i64 a0_1,.slice Ao14 t226.length co14,.slice none 0 0] 26 (0,0)) (by (with_reducible repeat (first | refine blk_drewN ?_ _ | refine blk_drew ?_ | refine blk_alloc ?_ _)); refine blk_put (cs:=#[.int .i64 a0_0,.int .i64 a0_1,.slice none 0 0,.slice none 0 0]) ?_ 2 _ rfl; (with_reducible repeat (first | refine blk_drewN ?_ _ | refine blk_drew ?_ | refine blk_alloc ?_ _)); exact BK225.out) hb); have n5_:=am_ (below_step (bl3_ HB.out GE223.out GE224.out GE225.out) hb); clear HO228; clear BK223; clear BK224; clear BK225; clear HB; have HO228:=n0_; have HO231:=n1_; have BK223:=n2_; have BK224:=n3_; have BK225:=n4_; have HB:=n5_; clear n0_ n1_ n2_ n3_ n4_ n5_; (try clear hb); (try clear hb2); (try clear hk); (try clear hi); (try clear ho0); obtain ⟨Ao18,co18,eo18⟩:=Kd.R_slice HO231.out; subst eo18; have hcz19_0:w17.cell? ⟨gb225,0,none⟩ = some (.int .i64 a0_0):=(bc_ BK225.out 0).trans rfl; have hcz19_1:w17.cell? ⟨gb225,1,none⟩ = some (.int .i64 a0_1):=(bc_ BK225.out 1).trans rfl; have hcz19_2:w17.cell? ⟨gb225,2,none⟩ = some (.slice Ao14 t226.length co14):=(bc_ BK225.out 2).trans rfl; have hcz19_3:w17.cell? ⟨gb225,3,none⟩ = some (.slice none 0 0):=(bc_ BK225.out 3).trans rfl; have hfz19_0:=bz_ BK225.out 0; have hfz19_1:=bz_ BK225.out 1; have hfz19_2:=bz_ BK225.out 2; have hfz19_3:=bz_ BK225.out 3; have hcz20_0:w17.cell? ⟨gb224,0,none⟩ = some (.int .i64 0):=(bc_ BK224.out 0).trans rfl; have hcz20_1:w17.cell? ⟨gb224,1,none⟩ = some (.int .i64 0):=(bc_ BK224.out 1).trans rfl; have hcz20_2:w17.cell? ⟨gb224,2,none⟩ = some (.slice none 0 0):=(bc_ BK224.out 2).trans rfl; have hcz20_3:w17.cell? ⟨gb224,3,none⟩ = some (.slice none 0 0):=(bc_ BK224.out 3).trans rfl; have hfz20_0:=bz_ BK224.out 0; have hfz20_1:=bz_ BK224.out 1; have hfz20_2:=bz_ BK224.out 2; have hfz20_3:=bz_ BK224.out 3))
 refine bodyPost_ret (results_cell_row rfl _ _ gb224 26 #[.int .i64 a0_0,.int .i64 a0_1,.slice Ao14 t226.length co14,.slice Ao18 t229.length co18] (0,0) _ rfl (by (with_reducible repeat (first | refine blk_drewN ?_ _ | refine blk_drew ?_ | refine blk_alloc ?_ _)); refine blk_put (cs:=#[.int .i64 a0_0,.int .i64 a0_1,.slice Ao14 t226.length co14,.slice none 0 0]) ?_ 3 _ rfl; (with_reducible repeat (first | refine blk_drewN ?_ _ | refine blk_drew ?_ | refine blk_alloc ?_ _)); refine blk_put (cs:=#[.int .i64 a0_0,.int .i64 a0_1,.slice none 0 0,.slice none 0 0]) ?_ 2 _ rfl; (with_reducible repeat (first | refine blk_drewN ?_ _ | refine blk_drew ?_ | refine blk_alloc ?_ _)); refine blk_put (cs:=#[.int .i64 a0_0,.int .i64 0,.slice none 0 0,.slice none 0 0]) ?_ 1 _ rfl; (with_reducible repeat (first | refine blk_drewN ?_ _ | refine blk_drew ?_ | refine blk_alloc ?_ _)); refine blk_put (cs:=#[.int .i64 0,.int .i64 0,.slice none 0 0,.slice none 0 0]) ?_ 0 _ rfl; (with_reducible repeat (first | refine blk_drewN ?_ _ | refine blk_drew ?_ | refine blk_alloc ?_ _)); refine blk_far ?_ NB224_225.out _; (with_reducible repeat (first | refine blk_drewN ?_ _ | refine blk_drew ?_ | refine blk_alloc ?_ _)); exact BK224.out) Tryz.underlying26 rfl (by kernel_rfl)) rfl ?_
 exact ⟨_,_,er_,by (with_reducible repeat (first | apply Kd.R_alloc | apply Kd.R_drewN | apply Kd.R_drew)); exact Kd.R_mono (Kd.R_far (p:=⟨gb224,3,none⟩) (Kd.R_far (p:=⟨gb224,2,none⟩) (Kd.R_far (p:=⟨gb224,1,none⟩) (Kd.R_far (p:=⟨gb224,0,none⟩) (Kd.R_far (p:=⟨gb225,3,none⟩) (Kd.R_types (Kd.R_types HO228.out BK225.out (by decide)) BK224.out (by decide)) (fun _ hk => hk.1.2) (.slice Ao18 t229.length co18)) (fun _ hk => hk.2) (.int .i64 a0_0)) (fun _ hk => hk.2) (.int .i64 a0_1)) (fun _ hk => hk.2) (.slice Ao14 t226.length co14)) (fun _ hk => hk.2) (.slice Ao18 t229.length co18)) (fun _ hk => hk.1.1.2),by (with_reducible repeat (first | apply Kd.R_alloc | apply Kd.R_drewN | apply Kd.R_drew)); exact Kd.R_mono (Kd.R_far (p:=⟨gb224,3,none⟩) (Kd.R_far (p:=⟨gb224,2,none⟩) (Kd.R_far (p:=⟨gb224,1,none⟩) (Kd.R_far (p:=⟨gb224,0,none⟩) (Kd.R_far (p:=⟨gb225,3,none⟩) (Kd.R_types (Kd.R_types HO231.out BK225.out (by decide)) BK224.out (by decide)) (fun _ hk => hk.1.2) (.slice Ao18 t229.length co18)) (fun _ hk => hk.2) (.int .i64 a0_0)) (fun _ hk => hk.2) (.int .i64 a0_1)) (fun _ hk => hk.2) (.slice Ao14 t226.length co14)) (fun _ hk => hk.2) (.slice Ao18 t229.length co18)) (fun _ hk => hk.1.1.2),bl3_ HB.out GE223.out GE224.out GE225.out⟩


theorem szFigure_ok (a b:Int) (l m:List Int) (h:l.length + m.length ≤ 1000000):laws_szFigure.f a b l m 1000000 = some (1000000 - (l.length:Int) - (m.length:Int)):=by
  have e1:wrap64 (1000000 - (l.length:Int)) = 1000000 - (l.length:Int):=by unfold wrap64; omega
  have e2:wrap64 (1000000 - (l.length:Int) - (m.length:Int)) = 1000000 - (l.length:Int) - (m.length:Int):=by unfold wrap64; omega
  unfold laws_szFigure.f laws_szIntS.f
  rw [e1,if_neg (by omega)]
  simp only [Option.bind_some]
  rw [if_neg (by omega),e2,if_neg (by omega)]
  simp only [Option.bind_some]
  rw [if_neg (by omega)]
theorem szFigure_no (a b:Int) (l m:List Int) (hl:l.length ≤ 140737488355328) (hm:m.length ≤ 140737488355328) (h:¬ l.length + m.length ≤ 1000000):laws_szFigure.f a b l m 1000000 = some (-1):=by
  have e1:wrap64 (1000000 - (l.length:Int)) = 1000000 - (l.length:Int):=by unfold wrap64; omega
  have e2:wrap64 (1000000 - (l.length:Int) - (m.length:Int)) = 1000000 - (l.length:Int) - (m.length:Int):=by unfold wrap64; omega
  unfold laws_szFigure.f laws_szIntS.f
  rw [e1]
  by_cases hx:1000000 - (l.length:Int) < 0
  · rw [if_pos hx]; simp
  · rw [if_neg hx]
    simp only [Option.bind_some]
    rw [if_neg hx,e2,if_pos (by omega)]
    simp
theorem toIntS_l1 (l:List Int) (hb:l.length ≤ 1000000):∀ (d k:Nat) (kk:Nat),l.length + roomN l.length - kk = d → l.length ≤ kk → kk ≤ l.length + roomN l.length → d < k →
    laws_toIntS.l1 k l (l ++ List.replicate (kk - l.length) (-7000000000000000101) ++ List.replicate (l.length + roomN l.length - kk) 0) (kk:Int) = some l:=by
  have hm:=roomN_le l.length
  intro d
  induction d with
  | zero =>
    intro k kk h1 h2 h3 h4
    obtain ⟨k,rfl⟩:∃ m,k = m + 1:=⟨k - 1,by omega⟩
    have hlen:=room_len2 l (l.length + roomN l.length) kk h2 h3
    simp only [laws_toIntS.l1]
    rw [hlen,if_neg (by omega),if_pos (by omega),if_pos (by omega),Int.toNat_natCast,List.append_assoc,List.take_left' rfl]
  | succ d ih =>
    intro k kk h1 h2 h3 h4
    obtain ⟨k,rfl⟩:∃ m,k = m + 1:=⟨k - 1,by omega⟩
    have hlen:=room_len2 l (l.length + roomN l.length) kk h2 h3
    have e:wrap64 ((kk:Int) + 1) = ((kk + 1:Nat):Int):=by unfold wrap64; omega
    simp only [laws_toIntS.l1]
    rw [hlen,if_pos (by omega),if_pos (by omega),Int.toNat_natCast,e,room_step2 l (l.length + roomN l.length) kk h2 (by omega)]
    exact ih k (kk + 1) (by omega) (by omega) (by omega) (by omega)
theorem toIntS_l0 (l:List Int) (hb:l.length ≤ 1000000):∀ (d k:Nat) (kk:Nat),l.length - kk = d → kk ≤ l.length → d + roomN l.length + 2 < k →
    laws_toIntS.l0 k l (l.take kk ++ List.replicate (l.length + roomN l.length - kk) 0) (kk:Int) = some l:=by
  have hm:=roomN_le l.length
  intro d
  induction d with
  | zero =>
    intro k kk h1 h2 h3
    obtain ⟨k,rfl⟩:∃ m,k = m + 1:=⟨k - 1,by omega⟩
    obtain rfl:kk = l.length:=by omega
    simp only [laws_toIntS.l0]
    rw [if_neg (by omega),room_mid l (l.length + roomN l.length)]
    exact toIntS_l1 l hb _ k l.length rfl (by omega) (by omega) (by omega)
  | succ d ih =>
    intro k kk h1 h2 h3
    obtain ⟨k,rfl⟩:∃ m,k = m + 1:=⟨k - 1,by omega⟩
    have hlen:=room_len1 l (l.length + roomN l.length) kk h2 (by omega)
    have e:wrap64 ((kk:Int) + 1) = ((kk + 1:Nat):Int):=by unfold wrap64; omega
    simp only [laws_toIntS.l0]
    rw [hlen,if_pos (by omega),if_pos (by omega),if_pos (by omega),Int.toNat_natCast,e,room_step1 l (l.length + roomN l.length) kk (by omega) (by omega)]
    exact ih k (kk + 1) (by omega) (by omega) (by omega)
theorem toIntS_f (l:List Int) (b:Bool) (hb:l.length ≤ 1000000) (k:Nat) (hk:3000010 < k):laws_toIntS.f k l b = some l:=by
  have hm:=roomN_le l.length
  have hk2:l.length + roomN l.length + 5 < k:=by omega
  clear hk
  have key:laws_toIntS.j0 k l false = some l:=by
    obtain ⟨k,rfl⟩:∃ m,k = m + 1:=⟨k - 1,by omega⟩
    simp only [laws_toIntS.j0]
    rw [if_neg (show ¬ (false = true) by decide),roomN_f,Option.bind_some]
    have e:wrap64 ((l.length:Int) + (roomN l.length:Int)) = ((l.length + roomN l.length:Nat):Int):=by unfold wrap64; omega
    have c1:(0:Int) ≤ ((l.length + roomN l.length:Nat):Int):=Int.natCast_nonneg _
    have c2:((l.length + roomN l.length:Nat):Int).toNat ≤ 35184372088832:=by rw [Int.toNat_natCast]; omega
    rw [e,if_pos c1,if_pos c2,Int.toNat_natCast,room_at0 l]
    clear c1 c2 e
    exact toIntS_l0 l hb _ k 0 rfl (by omega) (by omega)
  unfold laws_toIntS.f
  cases b with
  | false => rw [if_neg (show ¬ (false = true) by decide)]; exact key
  | true =>
    rw [if_pos rfl]
    by_cases h0:l.length = 0
    · have:l = []:=List.length_eq_zero_iff.1 h0
      subst this
      obtain ⟨k,rfl⟩:∃ m,k = m + 1:=⟨k - 1,by omega⟩
      clear key hk2
      simp only [laws_toIntS.j0]
      simp
    · rw [show ((l.length:Int) == 0) = false from by rw [beq_eq_false_iff_ne]; omega]
      exact key
theorem toFigure_f (a b:Int) (l m:List Int) (c:Bool) (hl:l.length ≤ 1000000) (hm:m.length ≤ 1000000) (k:Nat) (hk:3000010 < k):laws_toFigure.f k a b l m c = some (a,b,l,m):=by
  unfold laws_toFigure.f
  rw [toIntS_f l c hl k hk]
  simp only [Option.bind_some]
  rw [toIntS_f m c hm k hk]
  rfl


def laws_markIntS.l0:Nat → List Int → Int → Int → Option (Int × List Int)
  | 0,_,_,_ => none
  | k + 1,x0,x1,x5 => if x5 < (x0.length:Int) then (if 0 ≤ x5 then (laws_markIntS.l0 k (x0.set (x5:Int).toNat x1) (wrap64 (x1 + 1)) (wrap64 (x5 + 1))) else (none)) else (some (x1,x0))
def laws_markIntS.f (k:Nat) (l0:List Int) (a1:Int):Option (Int × List Int):=laws_markIntS.l0 k l0 a1 0
theorem laws_markIntS.mono_l:∀ k,(∀ y0 y1 y2,LeO (laws_markIntS.l0 k y0 y1 y2) (laws_markIntS.l0 (k + 1) y0 y1 y2))
  | 0 => fun _ _ _ r h => by simp [laws_markIntS.l0] at h
  | k + 1 => by
    have ih0:=laws_markIntS.mono_l k
    · intro y0 y1 y2
      unfold laws_markIntS.l0
      repeat' first | (with_reducible first | exact ih0 _ _ _ | exact LeO.refl _ | exact LeO.none _ | refine LeO.ite ?_ ?_ | refine LeO.bind ?_ (fun _ => ?_)) | exact ih0 _ _ _
theorem laws_markIntS.mono:∀ a0 a1 k,LeO (laws_markIntS.f k a0 a1) (laws_markIntS.f (k + 1) a0 a1):=by
  intro a0 a1 k
  have ih0:=laws_markIntS.mono_l k
  unfold laws_markIntS.f
  repeat' first | (with_reducible first | exact ih0 _ _ _ | exact LeO.refl _ | exact LeO.none _ | refine LeO.ite ?_ ?_ | refine LeO.bind ?_ (fun _ => ?_)) | exact ih0 _ _ _
set_option maxHeartbeats 8000000 in
set_option maxRecDepth 100000 in
theorem laws_markIntS.calls (k:Nat) (P0_:Nat → Prop) (u9000_:Value) (l0:List Int) (a1:Int) (r1:Int) (r2:List Int) (w0 w:World) (hB:Below w0.heap.size w0 w) (ho0:Kd.R (Kd.int .i64) 3 w w0.heap.size P0_ u9000_ l0) (h:laws_markIntS.f k l0 a1 = some (r1,r2)) :
    Calls Tryz.prog 30 #[u9000_,.int .i64 a1] w fun e w' => e = .returned (.int .i64 r1) ∧ Kd.R (Kd.int .i64) 3 w' w0.heap.size (fun k_ => (P0_ k_ ∨ w.heap.size ≤ k_)) u9000_ r2 ∧ Below w0.heap.size w0 w' ∧ Kept w w' (fun k_ => P0_ k_):=by
  have HO0:=am_ (show Kd.R (Kd.int .i64) 3 w w0.heap.size (fun k_ => (P0_ k_ ∨ w.heap.size ≤ k_)) u9000_ l0 from Kd.R_mono ho0 (fun k_ hk => (.inl hk)))
  have HK:=am_ (Kept.refl w (fun k_ => P0_ k_))
  have HW0:=am_ hB.size
  have HB:=am_ hB
  clear hB
  have H:(laws_markIntS.l0 k l0 a1 0) = some (r1,r2):=h
  clear h
  have H':=am_ H
  clear H
  go_enter Tryz.func30,Tryz.ntmps30
  go_wp2
  go_loopg [1,5] k (fun kq v1 v5 w' => ∃ (x0_1:List Int) (x1_1:Int) (x5_1:Int),v1 = .int .i64 x1_1 ∧ v5 = .int .i64 x5_1 ∧ Aside0 (laws_markIntS.l0 kq x0_1 x1_1 x5_1 = some (r1,r2)) ∧ Aside0 (kq ≤ k) ∧ Aside0 (Kd.R (Kd.int .i64) 3 w' w0.heap.size (fun k_ => (P0_ k_ ∨ w.heap.size ≤ k_)) u9000_ x0_1) ∧ Aside0 (Kept w w' (fun k_ => P0_ k_)) ∧ Aside0 (Below w0.heap.size w0 w'))
  case atStart => exact ⟨(l0),(a1),(0),rs_,rs_,H',⟨Nat.le_refl _⟩,⟨kr_ HO0.out⟩,⟨by repeat (first | (with_reducible first | exact HK.out | apply Kept.alloc | apply Kept.drewN | apply Kept.drew) | exact HK.out)⟩,⟨bl0_ HB.out⟩⟩
  case round =>
    clear H'
    try clear p2
    obtain ⟨x0_1,x1_1,x5_1,rfl,rfl,HA,HK1,HO_0,HK,HB⟩:=hrel
    cases gk with
    | zero => exact absurd HA.out (by simp [laws_markIntS.l0])
    | succ k1 =>
      have H:=HA.out
      clear HA
      simp only [laws_markIntS.l0] at H
      by_cases c3:x5_1 < (x0_1.length:Int)
      · rw [if_pos c3] at H
        have c3b0:decide (x5_1 < (x0_1.length:Int)) = true:=decide_eq_true c3
        clear c3
        by_cases c4:0 ≤ x5_1
        · rw [if_pos c4] at H
          have c4b0:decide (0 ≤ x5_1) = true:=decide_eq_true c4
          clear c4
          obtain ⟨y319,hy319⟩:∃ y_:List Int,y_ = (x0_1.set (x5_1:Int).toNat x1_1):=⟨_,rfl⟩
          replace H:(laws_markIntS.l0 k1 y319 (wrap64 (x1_1 + 1)) (wrap64 (x5_1 + 1))) = some (r1,r2):=by first | (rw [hy319]; with_reducible exact H) | (have H2_:=(Option.bind_some _ _).symm.trans H; rw [hy319]; with_reducible exact H2_) | (have H2_:=(Option.bind_some _ _).symm.trans H; with_reducible exact H2_) | with_reducible exact H | (rw [hy319]; exact H) | exact H
          have Ny319:=am_ hy319
          clear hy319
          have H':=am_ H
          clear H
          obtain ⟨Ao6,co6,eo6⟩:=Kd.R_slice HO_0.out
          subst eo6
          have p5:0 ≤ (x5_1:Int):=of_decide_eq_true as_
          have q5:(x5_1:Int) < ((x0_1.length:Int):Int):=of_decide_eq_true as_
          obtain ⟨go5,co5,eo5,gb5,gl5,cl5,HG5⟩:=Kd.R_form HO_0.out (by omega)
          (first | cases eo5 | (injection eo5 with ea_ en_ ec_; (first | subst ea_ | (injection ea_ with ea_; subst ea_)); subst ec_; clear en_))
          have GB5:=am_ gb5
          have GG5:=am_ HG5
          clear gb5 gl5 HG5
          have HMgo5:=am_ (show (P0_ go5 ∨ w.heap.size ≤ go5) from (HO_0.out.1 _ rfl))
          obtain ⟨hx5_0,hf5_0⟩:=Kd.R_celln 0 HO_0.out (x5_1:Int) p5 q5
          replace p5:=eq_true p5
          replace q5:=eq_true q5
          have HP7:=Kd.R_putg HO_0.out (x5_1:Int) x1_1
          go_wp2_with (first | ((with_reducible refine gate_store (t:=3) (p:=15) rfl ?_); refine store_event (t:=3) (p:=15) (v:=?vo_w8) (w1:=(wr.setCell ⟨go5,(x5_1:Int).toNat,none⟩ (.int .i64 x1_1))) ?hg ?ho ?hn ?hr ?_; (case ho => rfl); (case hg => rfl); (case hn => rfl); (case hr => first | (go_simp; done) | (go_simp; rfl)); intro w8 hw; have hg:wr.grownBy w8 (some go5):=(by rw [hw]; exact HP7.2); have hp_:Kd.R (Kd.int .i64) 3 w8 w0.heap.size (fun k_ => (P0_ k_ ∨ w.heap.size ≤ k_)) (.slice (some ⟨go5,0,none⟩) x0_1.length co6) y319:=(by rw [hw,Ny319.out]; exact HP7.1); clear HP7; have n0_:=am_ (hp_); have n1_:=am_ ((by rw [hw]; exact below_set (HB.out) GB5.out:Below w0.heap.size w0 w8)); have n2_:=am_ (Kept.of_grown (S:=(fun k_ => P0_ k_)) hg (by repeat (first | (with_reducible first | exact HK.out | apply Kept.alloc | apply Kept.drewN | apply Kept.drew) | exact HK.out)) (fun k_ e_ => (HO_0.out.1 k_ e_))); clear HO_0; clear HB; clear HK; have HO_0:=n0_; have HB:=n1_; have HK:=n2_; clear n0_ n1_ n2_; clear hg hw hp_))
          go_roundg k1
          case measure => have:=HK1.out; omega
          case rel => exact ⟨(y319),(wrap64 (x1_1 + 1)),(wrap64 (x5_1 + 1)),rs_,rs_,H',⟨by have:=HK1.out; omega⟩,⟨kr_ HO_0.out⟩,⟨by repeat (first | (with_reducible first | exact HK.out | apply Kept.alloc | apply Kept.drewN | apply Kept.drew) | exact HK.out)⟩,⟨bl0_ HB.out⟩⟩
        · rw [if_neg c4] at H
          exact absurd H (by simp)
      · rw [if_neg c3] at H
        have c3b0:decide (x5_1 < (x0_1.length:Int)) = false:=decide_eq_false c3
        clear c3
        simp only [Option.some.injEq,Prod.mk.injEq] at H
        obtain ⟨rfl,rfl⟩:=H
        obtain ⟨Ao9,co9,eo9⟩:=Kd.R_slice HO_0.out
        subst eo9
        go_wp2
        go_ret
        exact ⟨er_,by (with_reducible repeat (first | apply Kd.R_alloc | apply Kd.R_drewN | apply Kd.R_drew)); exact HO_0.out,bl0_ HB.out,by repeat (first | (with_reducible first | exact HK.out | apply Kept.alloc | apply Kept.drewN | apply Kept.drew) | exact HK.out)⟩


def laws_markFigure.f (k:Nat) (a0_0:Int) (a0_1:Int) (l0_2:List Int) (l0_3:List Int) (a1:Int):Option (Int × List Int × List Int):=(laws_markIntS.f k l0_2 a1).bind fun bt321 => ((laws_markIntS.f k l0_3 bt321.1).bind fun bt323 => (some (bt323.1,bt321.2,bt323.2)))
theorem laws_markFigure.mono:∀ a0 a1 a2 a3 a4 k,LeO (laws_markFigure.f k a0 a1 a2 a3 a4) (laws_markFigure.f (k + 1) a0 a1 a2 a3 a4):=by
 intro a0 a1 a2 a3 a4 k
 unfold laws_markFigure.f
 repeat' first | (with_reducible first | exact laws_markIntS.mono _ _ _ | exact LeO.refl _ | exact LeO.none _ | refine LeO.ite ?_ ?_ | refine LeO.bind ?_ (fun _ => ?_)) | exact laws_markIntS.mono _ _ _
set_option maxHeartbeats 8000000 in
set_option maxRecDepth 100000 in
theorem laws_markFigure.calls (k:Nat) (a0_0:Int) (a0_1:Int) (P0_2_:Nat → Prop) (u9000_:Value) (l0_2:List Int) (P0_3_:Nat → Prop) (u9001_:Value) (l0_3:List Int) (a1:Int) (r1:Int) (r2:List Int) (r3:List Int) (w0 w:World) (hB:Below w0.heap.size w0 w) (ho0_2:Kd.R (Kd.int .i64) 3 w w0.heap.size P0_2_ u9000_ l0_2) (hp0_2_0_3:∀ k_,P0_2_ k_ → ¬ P0_3_ k_) (ho0_3:Kd.R (Kd.int .i64) 3 w w0.heap.size P0_3_ u9001_ l0_3) (hp0_3_0_2:∀ k_,P0_3_ k_ → ¬ P0_2_ k_) (h:laws_markFigure.f k a0_0 a0_1 l0_2 l0_3 a1 = some (r1,r2,r3)) :
  Calls Tryz.prog 13 #[.agg #[.int .i64 a0_0,.int .i64 a0_1,u9000_,u9001_],.int .i64 a1] w fun e w' => e = .returned (.int .i64 r1) ∧ Kd.R (Kd.int .i64) 3 w' w0.heap.size (fun k_ => ((P0_2_ k_ ∨ P0_3_ k_) ∨ w.heap.size ≤ k_)) u9000_ r2 ∧ Kd.R (Kd.int .i64) 3 w' w0.heap.size (fun k_ => ((P0_2_ k_ ∨ P0_3_ k_) ∨ w.heap.size ≤ k_)) u9001_ r3 ∧ Below w0.heap.size w0 w' ∧ Kept w w' (fun k_ => P0_2_ k_ ∨ P0_3_ k_):=by
 have hu26:=Tryz.underlying26
 have HO0_2:=am_ (show Kd.R (Kd.int .i64) 3 w w0.heap.size (fun k_ => ((P0_2_ k_ ∨ P0_3_ k_) ∨ w.heap.size ≤ k_) ∧ some k_ ≠ (u9001_:Value).ownBlock) u9000_ l0_2 from Kd.R_mono ho0_2 (fun k_ hk => ⟨(.inl (.inl hk)),fun e_ => hp0_2_0_3 k_ hk (ho0_3.1 k_ e_.symm)⟩))
 have HO0_3:=am_ (show Kd.R (Kd.int .i64) 3 w w0.heap.size (fun k_ => ((P0_2_ k_ ∨ P0_3_ k_) ∨ w.heap.size ≤ k_) ∧ some k_ ≠ (u9000_:Value).ownBlock) u9001_ l0_3 from Kd.R_mono ho0_3 (fun k_ hk => ⟨(.inl (.inr hk)),fun e_ => hp0_3_0_2 k_ hk (ho0_2.1 k_ e_.symm)⟩))
 have HK:=am_ (Kept.refl w (fun k_ => P0_2_ k_ ∨ P0_3_ k_))
 have HW0:=am_ hB.size
 have HB:=am_ hB
 clear hB
 have H:((laws_markIntS.f k l0_2 a1).bind fun bt321 => ((laws_markIntS.f k l0_3 bt321.1).bind fun bt323 => (some (bt323.1,bt321.2,bt323.2)))) = some (r1,r2,r3):=h
 clear h
 replace H:=bi_ H
 obtain ⟨⟨t321,t322⟩,A30,H⟩:=H
 replace H:((laws_markIntS.f k l0_3 t321).bind fun bt323 => (some (bt323.1,t322,bt323.2))) = some (r1,r2,r3):=H
 have A3:=am_ A30
 clear A30
 replace H:=bi_ H
 obtain ⟨⟨t323,t324⟩,A40,H⟩:=H
 replace H:(some (t323,t322,t324)) = some (r1,r2,r3):=H
 have A4:=am_ A40
 clear A40
 simp only [Option.some.injEq,Prod.mk.injEq] at H
 obtain ⟨rfl,rfl,rfl⟩:=H
 obtain ⟨Ao5,co5,eo5⟩:=Kd.R_slice HO0_2.out
 subst eo5
 obtain ⟨Ao6,co6,eo6⟩:=Kd.R_slice HO0_3.out
 subst eo6
 go_enter Tryz.func13,Tryz.ntmps13
 go_wp2_with (first | ((with_reducible refine gate_dst (N:=2) rfl ?_); refine boxE_ (N:=2) (cs:=#[.int .i64 a0_0,.int .i64 a0_1,.slice Ao5 l0_2.length co5,.slice Ao6 l0_3.length co6]) (t:=26) ?_; intro gb320 hg w7 hbox hb; have n0_:=am_ (Kd.R_below (kr_ HO0_2.out) hb); have n1_:=am_ (Kd.R_below (kr_ HO0_3.out) hb); have n2_:=am_ (Kept.below (S:=(fun k_ => P0_2_ k_ ∨ P0_3_ k_)) (by repeat (first | (with_reducible first | exact HK.out | apply Kept.alloc | apply Kept.drewN | apply Kept.drew) | exact HK.out)) hb); have n3_:=am_ (below_step (bl0_ HB.out) hb); have n4_:=am_ (hbox); have n5_:=am_ ((by rw [hg]; exact (by first | exact HK.out.1 | exact (show Kept w _ (fun k_ => P0_2_ k_ ∨ P0_3_ k_) from by repeat (first | (with_reducible first | exact HK.out | apply Kept.alloc | apply Kept.drewN | apply Kept.drew) | exact HK.out)).1):w.heap.size ≤ gb320)); have n6_:=am_ ((bs0_ hg HB.out:w0.heap.size ≤ gb320)); clear HO0_2; clear HO0_3; clear HK; clear HB; have HO0_2:=n0_; have HO0_3:=n1_; have HK:=n2_; have HB:=n3_; have BK320:=n4_; have GW320:=n5_; have GE320:=n6_; clear n0_ n1_ n2_ n3_ n4_ n5_ n6_; clear hb hbox hg; have hcz8_0:w7.cell? ⟨gb320,0,none⟩ = some (.int .i64 a0_0):=(bc_ BK320.out 0).trans rfl; have hcz8_1:w7.cell? ⟨gb320,1,none⟩ = some (.int .i64 a0_1):=(bc_ BK320.out 1).trans rfl; have hcz8_2:w7.cell? ⟨gb320,2,none⟩ = some (.slice Ao5 l0_2.length co5):=(bc_ BK320.out 2).trans rfl; have hcz8_3:w7.cell? ⟨gb320,3,none⟩ = some (.slice Ao6 l0_3.length co6):=(bc_ BK320.out 3).trans rfl; have hfz8_0:=bz_ BK320.out 0; have hfz8_1:=bz_ BK320.out 1; have hfz8_2:=bz_ BK320.out 2; have hfz8_3:=bz_ BK320.out 3) | ((with_reducible refine gate_callee (f:=30) rfl ?_); refine goesL_ (some 8) rfl rfl Tryz.func30 (by kernel_rfl) rfl #[.slice Ao5 l0_2.length co5,.int .i64 a1] rfl ob_ ?_; (with_reducible refine (laws_markIntS.calls k (fun k_ => some k_ = (.slice Ao5 l0_2.length co5:Value).ownBlock) (.slice Ao5 l0_2.length co5) l0_2 a1 t321 t322 w0 _ ?side1 ?side2 A3.out).mono ?_); (case side1 => repeat (first | (with_reducible first | exact HB.out | apply below_alloc | apply pw_below_drewN | apply below_drew1 | refine below_set ?_ GE320.out) | exact HB.out)); (case side2 => exact Kd.R_tight rfl HO0_2.out); rintro e w9 ⟨rfl,hy0,hb,hkp⟩; refine ⟨_,rfl,?_⟩; have n0_:=am_ (Kd.R_reok rfl hy0 (fun k_ e_ => HO0_2.out.1 k_ e_)); have n1_:=am_ (Kd.R_mono (ok':=fun k_ => ((P0_2_ k_ ∨ P0_3_ k_) ∨ w.heap.size ≤ k_) ∧ some k_ ≠ (.slice Ao5 l0_2.length co5:Value).ownBlock) (Kd.R_keptB (HO0_3.out) hkp (fun k_ hk_ hs_ => (hk_.2) hs_)) (fun k_ hk_ => ⟨hk_.1.1,hk_.1.2⟩)); have n2_:=am_ (blk_kept (bk_ BK320.out) hkp (fun hs_ => (fun e_ => (Kd.R_ne HO0_2.out BK320.out (by decide)) e_) hs_)); have n3_:=am_ (Kept.then_ (S:=(fun k_ => P0_2_ k_ ∨ P0_3_ k_)) (by repeat (first | (with_reducible first | exact HK.out | apply Kept.alloc | apply Kept.drewN | apply Kept.drew | refine Kept.setCell ?_ (.inr GW320.out) _) | exact HK.out)) hkp (fun k_ hs_ => (fun e_ => (HO0_2.out.1 k_ e_.symm).1) hs_)); have n4_:=am_ (hb); clear HO0_2; clear HO0_3; clear BK320; clear HK; clear HB; have HO0_2:=n0_; have HO0_3:=n1_; have BK320:=n2_; have HK:=n3_; have HB:=n4_; clear n0_ n1_ n2_ n3_ n4_; (try clear hb); (try clear hkp); (try clear hy0); have hcz10_0:w9.cell? ⟨gb320,0,none⟩ = some (.int .i64 a0_0):=(bc_ BK320.out 0).trans rfl; have hcz10_1:w9.cell? ⟨gb320,1,none⟩ = some (.int .i64 a0_1):=(bc_ BK320.out 1).trans rfl; have hcz10_2:w9.cell? ⟨gb320,2,none⟩ = some (.slice Ao5 l0_2.length co5):=(bc_ BK320.out 2).trans rfl; have hcz10_3:w9.cell? ⟨gb320,3,none⟩ = some (.slice Ao6 l0_3.length co6):=(bc_ BK320.out 3).trans rfl; have hfz10_0:=bz_ BK320.out 0; have hfz10_1:=bz_ BK320.out 1; have hfz10_2:=bz_ BK320.out 2; have hfz10_3:=bz_ BK320.out 3) | ((with_reducible refine gate_callee (f:=30) rfl ?_); refine goesL_ (some 12) rfl rfl Tryz.func30 (by kernel_rfl) rfl #[.slice Ao6 l0_3.length co6,.int .i64 t321] rfl ob_ ?_; (with_reducible refine (laws_markIntS.calls k (fun k_ => some k_ = (.slice Ao6 l0_3.length co6:Value).ownBlock) (.slice Ao6 l0_3.length co6) l0_3 t321 t323 t324 w0 _ ?side1 ?side2 A4.out).mono ?_); (case side1 => repeat (first | (with_reducible first | exact HB.out | apply below_alloc | apply pw_below_drewN | apply below_drew1 | refine below_set ?_ GE320.out) | exact HB.out)); (case side2 => exact Kd.R_tight rfl HO0_3.out); rintro e w11 ⟨rfl,hy0,hb,hkp⟩; refine ⟨_,rfl,?_⟩; have n0_:=am_ (Kd.R_mono (ok':=fun k_ => ((P0_2_ k_ ∨ P0_3_ k_) ∨ w.heap.size ≤ k_) ∧ some k_ ≠ (.slice Ao6 l0_3.length co6:Value).ownBlock) (Kd.R_keptB (HO0_2.out) hkp (fun k_ hk_ hs_ => (hk_.2) hs_)) (fun k_ hk_ => ⟨hk_.1.1,hk_.1.2⟩)); have n1_:=am_ (Kd.R_reok rfl hy0 (fun k_ e_ => HO0_3.out.1 k_ e_)); have n2_:=am_ (blk_kept (bk_ BK320.out) hkp (fun hs_ => (fun e_ => (Kd.R_ne HO0_3.out BK320.out (by decide)) e_) hs_)); have n3_:=am_ (Kept.then_ (S:=(fun k_ => P0_2_ k_ ∨ P0_3_ k_)) (by repeat (first | (with_reducible first | exact HK.out | apply Kept.alloc | apply Kept.drewN | apply Kept.drew | refine Kept.setCell ?_ (.inr GW320.out) _) | exact HK.out)) hkp (fun k_ hs_ => (fun e_ => (HO0_3.out.1 k_ e_.symm).1) hs_)); have n4_:=am_ (hb); clear HO0_2; clear HO0_3; clear BK320; clear HK; clear HB; have HO0_2:=n0_; have HO0_3:=n1_; have BK320:=n2_; have HK:=n3_; have HB:=n4_; clear n0_ n1_ n2_ n3_ n4_; (try clear hb); (try clear hkp); (try clear hy0)))
 go_ret
 exact ⟨er_,by (with_reducible repeat (first | apply Kd.R_alloc | apply Kd.R_drewN | apply Kd.R_drew)); exact Kd.R_mono HO0_2.out (fun _ hk => hk.1),by (with_reducible repeat (first | apply Kd.R_alloc | apply Kd.R_drewN | apply Kd.R_drew)); exact Kd.R_mono HO0_3.out (fun _ hk => hk.1),bl1_ HB.out GE320.out,by repeat (first | (with_reducible first | exact HK.out | apply Kept.alloc | apply Kept.drewN | apply Kept.drew | refine Kept.setCell ?_ (.inr GW320.out) _) | exact HK.out)⟩


def marks (n:Nat) (a:Int):List Int:=(List.range n).map fun (i:Nat) => a + (i:Int)
theorem markIntS_l0 (l:List Int) (a:Int) (ha:0 ≤ a) (hb:(l.length:Int) + a ≤ 100000000):∀ (d k kk:Nat),l.length - kk = d → kk ≤ l.length → d < k →
    laws_markIntS.l0 k (marks kk a ++ l.drop kk) (a + kk) (kk:Int) = some (a + l.length,marks l.length a):=by
  intro d
  induction d with
  | zero =>
    intro k kk h1 h2 h3
    obtain ⟨k,rfl⟩:∃ m,k = m + 1:=⟨k - 1,by omega⟩
    obtain rfl:kk = l.length:=by omega
    have hl:(marks l.length a ++ l.drop l.length).length = l.length:=by simp [marks]
    simp only [laws_markIntS.l0]
    rw [hl,if_neg (by omega),List.drop_length,List.append_nil]
  | succ d ih =>
    intro k kk h1 h2 h3
    obtain ⟨k,rfl⟩:∃ m,k = m + 1:=⟨k - 1,by omega⟩
    have hl:(marks kk a ++ l.drop kk).length = l.length:=by simp [marks]; omega
    have hmk:(marks kk a).length = kk:=by simp [marks]
    have e1:wrap64 (a + (kk:Int) + 1) = a + ((kk + 1:Nat):Int):=by unfold wrap64; omega
    have e2:wrap64 ((kk:Int) + 1) = ((kk + 1:Nat):Int):=by unfold wrap64; omega
    have e3:(marks kk a ++ l.drop kk).set kk (a + (kk:Int)) = marks (kk + 1) a ++ l.drop (kk + 1):=by
      rw [List.drop_eq_getElem_cons (show kk < l.length by omega),List.set_append,if_neg (by omega),hmk,Nat.sub_self,List.set_cons_zero]
      simp [marks,List.range_succ]
    simp only [laws_markIntS.l0]
    rw [hl,if_pos (by omega),if_pos (by omega),Int.toNat_natCast,e3,e1,e2]
    exact ih k (kk + 1) (by omega) (by omega) (by omega)
theorem markIntS_f (l:List Int) (a:Int) (ha:0 ≤ a) (hb:(l.length:Int) + a ≤ 100000000) (k:Nat) (hk:l.length < k):laws_markIntS.f k l a = some (a + l.length,marks l.length a):=by
  unfold laws_markIntS.f
  have:=markIntS_l0 l a ha hb l.length k 0 (by omega) (by omega) hk
  simpa [marks] using this
theorem markFigure_f (x y:Int) (l m:List Int) (hb:l.length + m.length ≤ 1000000) (k:Nat) (hk:3000010 < k):laws_markFigure.f k x y l m 101 = some (101 + (l.length:Int) + (m.length:Int),marks l.length 101,marks m.length (101 + (l.length:Int))):=by
  unfold laws_markFigure.f
  rw [markIntS_f l 101 (by omega) (by omega) k (by omega)]
  simp only [Option.bind_some]
  rw [markIntS_f m _ (by omega) (by omega) k (by omega)]
  rfl


def laws_eqIntS.l0:Nat → List Int → List Int → Int → Option (Bool)
 | 0,_,_,_ => none
 | k + 1,x0,x1,x5 => if x5 < (x0.length:Int) then (if 0 ≤ x5 then (if x5 < (x1.length:Int) then (if (rd x0 x5) = (rd x1 x5) then (laws_eqIntS.l0 k x0 x1 (wrap64 (x5 + 1))) else (some false)) else (none)) else (none)) else (some true)
def laws_eqIntS.f (k:Nat) (l0:List Int) (l1:List Int):Option (Bool):=if (l0.length:Int) = (l1.length:Int) then (laws_eqIntS.l0 k l0 l1 0) else (some false)
theorem laws_eqIntS.mono_l:∀ k,(∀ y0 y1 y2,LeO (laws_eqIntS.l0 k y0 y1 y2) (laws_eqIntS.l0 (k + 1) y0 y1 y2))
 | 0 => fun _ _ _ r h => by simp [laws_eqIntS.l0] at h
 | k + 1 => by
  have ih0:=laws_eqIntS.mono_l k
  ·intro y0 y1 y2
   unfold laws_eqIntS.l0
   repeat' first | (with_reducible first | exact ih0 _ _ _ | exact LeO.refl _ | exact LeO.none _ | refine LeO.ite ?_ ?_ | refine LeO.bind ?_ (fun _ => ?_)) | exact ih0 _ _ _
theorem laws_eqIntS.mono:∀ a0 a1 k,LeO (laws_eqIntS.f k a0 a1) (laws_eqIntS.f (k + 1) a0 a1):=by
 intro a0 a1 k
 have ih0:=laws_eqIntS.mono_l k
 unfold laws_eqIntS.f
 repeat' first | (with_reducible first | exact ih0 _ _ _ | exact LeO.refl _ | exact LeO.none _ | refine LeO.ite ?_ ?_ | refine LeO.bind ?_ (fun _ => ?_)) | exact ih0 _ _ _
set_option maxHeartbeats 8000000 in
set_option maxRecDepth 100000 in
theorem laws_eqIntS.calls (k:Nat) (A0:Option Addr) (c0:Nat) (l0:List Int) (A1:Option Addr) (c1:Nat) (l1:List Int) (r:Bool) (w:World) (hr0:Kd.C (Kd.int .i64) w A0 l0.length l0) (hc0:l0.length ≤ c0) (hr1:Kd.C (Kd.int .i64) w A1 l1.length l1) (hc1:l1.length ≤ c1) (h:laws_eqIntS.f k l0 l1 = some r) :
  Calls Tryz.prog 28 #[.slice A0 l0.length c0,.slice A1 l1.length c1] w fun e w' => e = .returned (.bool r) ∧ Drawn0 w w':=by
 have HR0:=am_ hr0
 have HC0:=am_ hc0
 clear hr0 hc0
 have HR1:=am_ hr1
 have HC1:=am_ hc1
 clear hr1 hc1
 have H:(if (l0.length:Int) = (l1.length:Int) then (laws_eqIntS.l0 k l0 l1 0) else (some false)) = some r:=h
 clear h
 by_cases c3:(l0.length:Int) = (l1.length:Int)
 ·rw [if_pos c3] at H
  have c3b0:((l0.length:Int) == (l1.length:Int)) = true:=beq_iff_eq.mpr c3
  have c3b1:((l0.length:Int) != (l1.length:Int)) = false:=bne_eq_false_iff_eq.mpr c3
  have c3b2:(l0.length == l1.length) = true:=by first | simpa using c3 | (simp at c3 ⊢; omega)
  clear c3
  have H':=am_ H
  clear H
  go_enter Tryz.func28,Tryz.ntmps28
  go_wp2
  repeat (go_quiet (fail); try go_wp2)
  go_loopg [5] k (fun kq v5 w' => ∃ (x5_1:Int),v5 = .int .i64 x5_1 ∧ Aside0 (laws_eqIntS.l0 kq l0 l1 x5_1 = some r) ∧ Aside0 (kq ≤ k) ∧ Drawn0 w w')
  case atStart => exact ⟨(0),rs_,H',⟨Nat.le_refl _⟩,by repeat (first | exact Drawn0.refl _ | apply Drawn0.step)⟩
  case round =>
   clear H'
   try clear c1
   try clear c2
   try clear p2
   try clear c3
   try clear c3b0
   try clear c3b1
   try clear c3b2
   obtain ⟨x5_1,rfl,HA,HK1,⟨m1,rfl⟩⟩:=hrel
   cases gk with
   | zero => exact absurd HA.out (by simp [laws_eqIntS.l0])
   | succ k1 =>
    have H:=HA.out
    clear HA
    simp only [laws_eqIntS.l0] at H
    by_cases c4:x5_1 < (l0.length:Int)
    ·rw [if_pos c4] at H
     have c4b0:decide (x5_1 < (l0.length:Int)) = true:=decide_eq_true c4
     clear c4
     by_cases c5:0 ≤ x5_1
     ·rw [if_pos c5] at H
      have c5b0:decide (0 ≤ x5_1) = true:=decide_eq_true c5
      clear c5
      by_cases c6:x5_1 < (l1.length:Int)
      ·rw [if_pos c6] at H
       have c6b0:decide (x5_1 < (l1.length:Int)) = true:=decide_eq_true c6
       clear c6
       by_cases c7:(rd l0 x5_1) = (rd l1 x5_1)
       ·rw [if_pos c7] at H
        have c7b0:((rd l0 x5_1) == (rd l1 x5_1)) = true:=beq_iff_eq.mpr c7
        have c7b1:((rd l0 x5_1) != (rd l1 x5_1)) = false:=bne_eq_false_iff_eq.mpr c7
        clear c7
        have H':=am_ H
        clear H
        have p305:0 ≤ (x5_1:Int):=of_decide_eq_true as_
        have q305:x5_1 < (l0.length:Int):=of_decide_eq_true as_
        obtain ⟨ad305,e305,hx305_0⟩:=Kd.at_int HR0.out x5_1 p305 q305
        cases e305
        replace p305:=eq_true p305
        replace q305:=eq_true q305
        have p306:0 ≤ (x5_1:Int):=of_decide_eq_true as_
        have q306:x5_1 < (l1.length:Int):=of_decide_eq_true as_
        obtain ⟨ad306,e306,hx306_0⟩:=Kd.at_int HR1.out x5_1 p306 q306
        cases e306
        replace p306:=eq_true p306
        replace q306:=eq_true q306
        go_wp2
        repeat (go_quiet (fail); try go_wp2)
        go_roundg k1
        case measure => have:=HK1.out; omega
        case rel => exact ⟨(wrap64 (x5_1 + 1)),rs_,H',⟨by have:=HK1.out; omega⟩,by repeat (first | exact Drawn0.refl _ | apply Drawn0.step)⟩
       ·rw [if_neg c7] at H
        have c7b0:((rd l0 x5_1) == (rd l1 x5_1)) = false:=beq_eq_false_iff_ne.mpr c7
        have c7b1:((rd l0 x5_1) != (rd l1 x5_1)) = true:=bne_iff_ne.mpr c7
        obtain rfl:=Option.some.inj H
        have p305:0 ≤ (x5_1:Int):=of_decide_eq_true as_
        have q305:x5_1 < (l0.length:Int):=of_decide_eq_true as_
        obtain ⟨ad305,e305,hx305_0⟩:=Kd.at_int HR0.out x5_1 p305 q305
        cases e305
        replace p305:=eq_true p305
        replace q305:=eq_true q305
        have p306:0 ≤ (x5_1:Int):=of_decide_eq_true as_
        have q306:x5_1 < (l1.length:Int):=of_decide_eq_true as_
        obtain ⟨ad306,e306,hx306_0⟩:=Kd.at_int HR1.out x5_1 p306 q306
        cases e306
        replace p306:=eq_true p306
        replace q306:=eq_true q306
        go_wp2
        repeat (go_quiet (fail); try go_wp2)
        go_ret
        exact ⟨by first | rfl | (simp; done) | (simp [*]; done),by repeat (first | exact Drawn0.refl _ | apply Drawn0.step)⟩
      ·rw [if_neg c6] at H
       exact absurd H (by simp)
     ·rw [if_neg c5] at H
      exact absurd H (by simp)
    ·rw [if_neg c4] at H
     have c4b0:decide (x5_1 < (l0.length:Int)) = false:=decide_eq_false c4
     clear c4
     obtain rfl:=Option.some.inj H
     go_wp2
     repeat (go_quiet (fail); try go_wp2)
     go_ret
     exact ⟨by first | rfl | (simp; done) | (simp [*]; done),by repeat (first | exact Drawn0.refl _ | apply Drawn0.step)⟩
 ·rw [if_neg c3] at H
  have c3b0:((l0.length:Int) == (l1.length:Int)) = false:=beq_eq_false_iff_ne.mpr c3
  have c3b1:((l0.length:Int) != (l1.length:Int)) = true:=bne_iff_ne.mpr c3
  have c3b2:(l0.length == l1.length) = false:=by first | simpa using c3 | (simp at c3 ⊢; omega)
  obtain rfl:=Option.some.inj H
  go_enter Tryz.func28,Tryz.ntmps28
  go_wp2
  repeat (go_quiet (fail); try go_wp2)
  go_ret
  exact ⟨by first | rfl | (simp; done) | (simp [*]; done),by repeat (first | exact Drawn0.refl _ | apply Drawn0.step)⟩


def laws_heldIntS.l0:Nat → List Int → Int → Int → Option (Int)
  | 0,_,_,_ => none
  | k + 1,x0,x1,x5 => if x5 < (x0.length:Int) then (if 0 ≤ x5 then (if (rd x0 x5) = x1 then (laws_heldIntS.l0 k x0 (wrap64 (x1 + 1)) (wrap64 (x5 + 1))) else (some (-1))) else (none)) else (some x1)
def laws_heldIntS.f (k:Nat) (l0:List Int) (a1:Int):Option (Int):=laws_heldIntS.l0 k l0 a1 0
theorem laws_heldIntS.mono_l:∀ k,(∀ y0 y1 y2,LeO (laws_heldIntS.l0 k y0 y1 y2) (laws_heldIntS.l0 (k + 1) y0 y1 y2))
  | 0 => fun _ _ _ r h => by simp [laws_heldIntS.l0] at h
  | k + 1 => by
    have ih0:=laws_heldIntS.mono_l k
    · intro y0 y1 y2
      unfold laws_heldIntS.l0
      repeat' first | (with_reducible first | exact ih0 _ _ _ | exact LeO.refl _ | exact LeO.none _ | refine LeO.ite ?_ ?_ | refine LeO.bind ?_ (fun _ => ?_)) | exact ih0 _ _ _
theorem laws_heldIntS.mono:∀ a0 a1 k,LeO (laws_heldIntS.f k a0 a1) (laws_heldIntS.f (k + 1) a0 a1):=by
  intro a0 a1 k
  have ih0:=laws_heldIntS.mono_l k
  unfold laws_heldIntS.f
  repeat' first | (with_reducible first | exact ih0 _ _ _ | exact LeO.refl _ | exact LeO.none _ | refine LeO.ite ?_ ?_ | refine LeO.bind ?_ (fun _ => ?_)) | exact ih0 _ _ _
set_option maxHeartbeats 8000000 in
set_option maxRecDepth 100000 in
theorem laws_heldIntS.calls (k:Nat) (A0:Option Addr) (c0:Nat) (l0:List Int) (a1:Int) (r:Int) (w:World) (hr0:Kd.C (Kd.int .i64) w A0 l0.length l0) (hc0:l0.length ≤ c0) (h:laws_heldIntS.f k l0 a1 = some r) :
    Calls Tryz.prog 31 #[.slice A0 l0.length c0,.int .i64 a1] w fun e w' => e = .returned (.int .i64 r) ∧ Drawn0 w w':=by
  have HR0:=am_ hr0
  have HC0:=am_ hc0
  clear hr0 hc0
  have H:(laws_heldIntS.l0 k l0 a1 0) = some r:=h
  clear h
  have H':=am_ H
  clear H
  go_enter Tryz.func31,Tryz.ntmps31
  go_wp2
  go_loopg [1,5] k (fun kq v1 v5 w' => ∃ (x1_1:Int) (x5_1:Int),v1 = .int .i64 x1_1 ∧ v5 = .int .i64 x5_1 ∧ Aside0 (laws_heldIntS.l0 kq l0 x1_1 x5_1 = some r) ∧ Aside0 (kq ≤ k) ∧ Drawn0 w w')
  case atStart => exact ⟨(a1),(0),rs_,rs_,H',⟨Nat.le_refl _⟩,by repeat (first | exact Drawn0.refl _ | apply Drawn0.step)⟩
  case round =>
    clear H'
    try clear p2
    obtain ⟨x1_1,x5_1,rfl,rfl,HA,HK1,⟨m1,rfl⟩⟩:=hrel
    cases gk with
    | zero => exact absurd HA.out (by simp [laws_heldIntS.l0])
    | succ k1 =>
      have H:=HA.out
      clear HA
      simp only [laws_heldIntS.l0] at H
      by_cases c3:x5_1 < (l0.length:Int)
      · rw [if_pos c3] at H
        have c3b0:decide (x5_1 < (l0.length:Int)) = true:=decide_eq_true c3
        clear c3
        by_cases c4:0 ≤ x5_1
        · rw [if_pos c4] at H
          have c4b0:decide (0 ≤ x5_1) = true:=decide_eq_true c4
          clear c4
          by_cases c5:(rd l0 x5_1) = x1_1
          · rw [if_pos c5] at H
            have c5b0:((rd l0 x5_1) == x1_1) = true:=beq_iff_eq.mpr c5
            have c5b1:((rd l0 x5_1) != x1_1) = false:=bne_eq_false_iff_eq.mpr c5
            clear c5
            have H':=am_ H
            clear H
            have p325:0 ≤ (x5_1:Int):=of_decide_eq_true as_
            have q325:x5_1 < (l0.length:Int):=of_decide_eq_true as_
            obtain ⟨ad325,e325,hx325_0⟩:=Kd.at_int HR0.out x5_1 p325 q325
            cases e325
            replace p325:=eq_true p325
            replace q325:=eq_true q325
            go_wp2
            go_roundg k1
            case measure => have:=HK1.out; omega
            case rel => exact ⟨(wrap64 (x1_1 + 1)),(wrap64 (x5_1 + 1)),rs_,rs_,H',⟨by have:=HK1.out; omega⟩,by repeat (first | exact Drawn0.refl _ | apply Drawn0.step)⟩
          · rw [if_neg c5] at H
            have c5b0:((rd l0 x5_1) == x1_1) = false:=beq_eq_false_iff_ne.mpr c5
            have c5b1:((rd l0 x5_1) != x1_1) = true:=bne_iff_ne.mpr c5
            obtain rfl:=Option.some.inj H
            have p325:0 ≤ (x5_1:Int):=of_decide_eq_true as_
            have q325:x5_1 < (l0.length:Int):=of_decide_eq_true as_
            obtain ⟨ad325,e325,hx325_0⟩:=Kd.at_int HR0.out x5_1 p325 q325
            cases e325
            replace p325:=eq_true p325
            replace q325:=eq_true q325
            go_wp2
            go_ret
            exact ⟨by first | rfl | (simp; done) | (simp [*]; done),by repeat (first | exact Drawn0.refl _ | apply Drawn0.step)⟩
        · rw [if_neg c4] at H
          exact absurd H (by simp)
      · rw [if_neg c3] at H
        have c3b0:decide (x5_1 < (l0.length:Int)) = false:=decide_eq_false c3
        clear c3
        obtain rfl:=Option.some.inj H
        go_wp2
        go_ret
        exact ⟨by first | rfl | (simp; done) | (simp [*]; done),by repeat (first | exact Drawn0.refl _ | apply Drawn0.step)⟩


theorem eqIntS_l0 (L:List Int) (hL:L.length ≤ 4000000):∀ (d:Nat) (k:Nat) (i:Nat),L.length - i = d → i ≤ L.length → d < k → laws_eqIntS.l0 k L L (i:Int) = some true:=by
  intro d
  induction d with
  | zero =>
    intro k i h1 h2 h3
    obtain ⟨k,rfl⟩:∃ m,k = m + 1:=⟨k - 1,by omega⟩
    simp only [laws_eqIntS.l0]
    rw [if_neg (by omega)]
  | succ d ih =>
    intro k i h1 h2 h3
    obtain ⟨k,rfl⟩:∃ m,k = m + 1:=⟨k - 1,by omega⟩
    simp only [laws_eqIntS.l0]
    rw [if_pos (by omega),if_pos (by omega),if_pos (by omega),if_pos trivial,show wrap64 ((i:Int) + 1) = ((i + 1:Nat):Int) by unfold wrap64; omega]
    exact ih k (i + 1) (by omega) (by omega) (by omega)
theorem eqIntS_refl (L:List Int) (hL:L.length ≤ 4000000) (k:Nat) (hk:L.length < k):laws_eqIntS.f k L L = some true:=by
  unfold laws_eqIntS.f
  rw [if_pos rfl]
  exact eqIntS_l0 L hL L.length k 0 (by omega) (by omega) hk
theorem marks_len (n:Nat) (a:Int):(marks n a).length = n:=by simp [marks]
theorem rd_marks (n:Nat) (a:Int) (i:Nat) (h:i < n):rd (marks n a) (i:Int) = a + (i:Int):=by
  rw [rd_nat _ _ (by rw [marks_len]; exact h)]
  simp [marks]
theorem heldIntS_l0 (n:Nat) (a:Int) (ha:0 ≤ a) (hb:(n:Int) + a ≤ 100000000):∀ (d k kk:Nat),n - kk = d → kk ≤ n → d < k → laws_heldIntS.l0 k (marks n a) (a + kk) (kk:Int) = some (a + n):=by
  intro d
  induction d with
  | zero =>
    intro k kk h1 h2 h3
    obtain ⟨k,rfl⟩:∃ m,k = m + 1:=⟨k - 1,by omega⟩
    obtain rfl:kk = n:=by omega
    simp only [laws_heldIntS.l0]
    rw [marks_len,if_neg (by omega)]
  | succ d ih =>
    intro k kk h1 h2 h3
    obtain ⟨k,rfl⟩:∃ m,k = m + 1:=⟨k - 1,by omega⟩
    have e1:wrap64 (a + (kk:Int) + 1) = a + ((kk + 1:Nat):Int):=by unfold wrap64; omega
    have e2:wrap64 ((kk:Int) + 1) = ((kk + 1:Nat):Int):=by unfold wrap64; omega
    simp only [laws_heldIntS.l0]
    rw [marks_len,if_pos (by omega),if_pos (by omega),rd_marks n a kk (by omega),e1,e2]
    first
      | (rw [if_pos rfl]; exact ih k (kk + 1) (by omega) (by omega) (by omega))
      | (rw [if_neg (by simp)]; exact ih k (kk + 1) (by omega) (by omega) (by omega))
theorem heldIntS_f (n:Nat) (a:Int) (ha:0 ≤ a) (hb:(n:Int) + a ≤ 100000000) (k:Nat) (hk:n < k):laws_heldIntS.f k (marks n a) a = some (a + (n:Int)):=by
  unfold laws_heldIntS.f
  have:=heldIntS_l0 n a ha hb n k 0 (by omega) (by omega) hk
  simpa using this

def laws_eqFigure.f (k:Nat) (a0_0:Int) (a0_1:Int) (l0_2:List Int) (l0_3:List Int) (a1_0:Int) (a1_1:Int) (l1_2:List Int) (l1_3:List Int):Option (Bool):=if a0_0 = a1_0 then (if a0_1 = a1_1 then ((laws_eqIntS.f k l0_2 l1_2).bind fun t309 => (if t309 = true then ((laws_eqIntS.f k l0_3 l1_3).bind fun t310 => (if t310 = true then (some true) else (some false))) else (some false))) else (some false)) else (some false)
theorem laws_eqFigure.mono:∀ a0 a1 a2 a3 a4 a5 a6 a7 k,LeO (laws_eqFigure.f k a0 a1 a2 a3 a4 a5 a6 a7) (laws_eqFigure.f (k + 1) a0 a1 a2 a3 a4 a5 a6 a7):=by
 intro a0 a1 a2 a3 a4 a5 a6 a7 k
 unfold laws_eqFigure.f
 repeat' first | (with_reducible first | exact laws_eqIntS.mono _ _ _ | exact LeO.refl _ | exact LeO.none _ | refine LeO.ite ?_ ?_ | refine LeO.bind ?_ (fun _ => ?_)) | exact laws_eqIntS.mono _ _ _
set_option maxHeartbeats 8000000 in
set_option maxRecDepth 100000 in
theorem laws_eqFigure.calls (k:Nat) (a0_0:Int) (a0_1:Int) (A0_2:Option Addr) (c0_2:Nat) (l0_2:List Int) (A0_3:Option Addr) (c0_3:Nat) (l0_3:List Int) (a1_0:Int) (a1_1:Int) (A1_2:Option Addr) (c1_2:Nat) (l1_2:List Int) (A1_3:Option Addr) (c1_3:Nat) (l1_3:List Int) (r:Bool) (w:World) (hr0_2:Kd.C (Kd.int .i64) w A0_2 l0_2.length l0_2) (hc0_2:l0_2.length ≤ c0_2) (hr0_3:Kd.C (Kd.int .i64) w A0_3 l0_3.length l0_3) (hc0_3:l0_3.length ≤ c0_3) (hr1_2:Kd.C (Kd.int .i64) w A1_2 l1_2.length l1_2) (hc1_2:l1_2.length ≤ c1_2) (hr1_3:Kd.C (Kd.int .i64) w A1_3 l1_3.length l1_3) (hc1_3:l1_3.length ≤ c1_3) (h:laws_eqFigure.f k a0_0 a0_1 l0_2 l0_3 a1_0 a1_1 l1_2 l1_3 = some r) :
  Calls Tryz.prog 11 #[.agg #[.int .i64 a0_0,.int .i64 a0_1,.slice A0_2 l0_2.length c0_2,.slice A0_3 l0_3.length c0_3],.agg #[.int .i64 a1_0,.int .i64 a1_1,.slice A1_2 l1_2.length c1_2,.slice A1_3 l1_3.length c1_3]] w fun e w' => e = .returned (.bool r) ∧ Below w.heap.size w w':=by
 have hu26:=Tryz.underlying26
 have HR0_2:=am_ hr0_2
 have HC0_2:=am_ hc0_2
 clear hr0_2 hc0_2
 have HR0_3:=am_ hr0_3
 have HC0_3:=am_ hc0_3
 clear hr0_3 hc0_3
 have HR1_2:=am_ hr1_2
 have HC1_2:=am_ hc1_2
 clear hr1_2 hc1_2
 have HR1_3:=am_ hr1_3
 have HC1_3:=am_ hc1_3
 clear hr1_3 hc1_3
 have HB:=am_ (Below.refl w.heap.size w)
 have H:(if a0_0 = a1_0 then (if a0_1 = a1_1 then ((laws_eqIntS.f k l0_2 l1_2).bind fun t309 => (if t309 = true then ((laws_eqIntS.f k l0_3 l1_3).bind fun t310 => (if t310 = true then (some true) else (some false))) else (some false))) else (some false)) else (some false)) = some r:=h
 clear h
 by_cases c3:a0_0 = a1_0
 ·rw [if_pos c3] at H
  have c3b0:(a0_0 == a1_0) = true:=beq_iff_eq.mpr c3
  have c3b1:(a0_0 != a1_0) = false:=bne_eq_false_iff_eq.mpr c3
  clear c3
  by_cases c4:a0_1 = a1_1
  ·rw [if_pos c4] at H
   have c4b0:(a0_1 == a1_1) = true:=beq_iff_eq.mpr c4
   have c4b1:(a0_1 != a1_1) = false:=bne_eq_false_iff_eq.mpr c4
   clear c4
   replace H:=bi_ H
   obtain ⟨t309,A50,H⟩:=H
   replace H:(if t309 = true then ((laws_eqIntS.f k l0_3 l1_3).bind fun t310 => (if t310 = true then (some true) else (some false))) else (some false)) = some r:=H
   have A5:=am_ A50
   clear A50
   by_cases c6:t309 = true
   ·subst c6
    have H1:((laws_eqIntS.f k l0_3 l1_3).bind fun t310 => (if t310 = true then (some true) else (some false))) = some r:=by rw [if_pos rfl] at H; exact H
    clear H
    have H:=H1
    clear H1
    replace H:=bi_ H
    obtain ⟨t310,A70,H⟩:=H
    replace H:(if t310 = true then (some true) else (some false)) = some r:=H
    have A7:=am_ A70
    clear A70
    by_cases c8:t310 = true
    ·subst c8
     have H1:(some true) = some r:=by rw [if_pos rfl] at H; exact H
     clear H
     have H:=H1
     clear H1
     obtain rfl:=Option.some.inj H
     go_enter Tryz.func11,Tryz.ntmps11
     go_wp2_with (first | ((with_reducible refine gate_dst (N:=2) rfl ?_); refine boxE_ (N:=2) (cs:=#[.int .i64 a0_0,.int .i64 a0_1,.slice A0_2 l0_2.length c0_2,.slice A0_3 l0_3.length c0_3]) (t:=26) ?_; intro gb307 hg w9 hbox hb; have n0_:=am_ (below_step (bl0_ HB.out) hb); have n1_:=am_ (hbox); have n2_:=am_ ((bs0_ hg HB.out:w.heap.size ≤ gb307)); have n3_:=am_ ((bs0_ hg HB.out:w.heap.size ≤ gb307)); clear HB; have HB:=n0_; have BK307:=n1_; have GW307:=n2_; have GE307:=n3_; clear n0_ n1_ n2_ n3_; clear hb hbox hg) | ((with_reducible refine gate_dst (N:=3) rfl ?_); refine boxE_ (N:=3) (cs:=#[.int .i64 a1_0,.int .i64 a1_1,.slice A1_2 l1_2.length c1_2,.slice A1_3 l1_3.length c1_3]) (t:=26) ?_; intro gb308 hg w10 hbox hb; have n0_:=am_ (bb_ BK307.out hb); have n1_:=am_ (below_step (bl1_ HB.out GE307.out) hb); have n2_:=am_ (hbox); have n3_:=am_ ((bs1_ hg HB.out GE307.out:w.heap.size ≤ gb308)); have n4_:=am_ ((bs1_ hg HB.out GE307.out:w.heap.size ≤ gb308)); have n5_:=am_ ((nl_ hg BK307.out:gb307 ≠ gb308)); have n6_:=am_ ((ng_ hg BK307.out:gb308 ≠ gb307)); clear BK307; clear HB; have BK307:=n0_; have HB:=n1_; have BK308:=n2_; have GW308:=n3_; have GE308:=n4_; have NB307_308:=n5_; have NB308_307:=n6_; clear n0_ n1_ n2_ n3_ n4_ n5_ n6_; clear hb hbox hg; have hnb11:=NB307_308.out; have hnc11:=NB308_307.out; have hcz12_0:w10.cell? ⟨gb307,0,none⟩ = some (.int .i64 a0_0):=(bc_ BK307.out 0).trans rfl; have hcz12_1:w10.cell? ⟨gb307,1,none⟩ = some (.int .i64 a0_1):=(bc_ BK307.out 1).trans rfl; have hcz12_2:w10.cell? ⟨gb307,2,none⟩ = some (.slice A0_2 l0_2.length c0_2):=(bc_ BK307.out 2).trans rfl; have hcz12_3:w10.cell? ⟨gb307,3,none⟩ = some (.slice A0_3 l0_3.length c0_3):=(bc_ BK307.out 3).trans rfl; have hfz12_0:=bz_ BK307.out 0; have hfz12_1:=bz_ BK307.out 1; have hfz12_2:=bz_ BK307.out 2; have hfz12_3:=bz_ BK307.out 3; have hcz13_0:w10.cell? ⟨gb308,0,none⟩ = some (.int .i64 a1_0):=(bc_ BK308.out 0).trans rfl; have hcz13_1:w10.cell? ⟨gb308,1,none⟩ = some (.int .i64 a1_1):=(bc_ BK308.out 1).trans rfl; have hcz13_2:w10.cell? ⟨gb308,2,none⟩ = some (.slice A1_2 l1_2.length c1_2):=(bc_ BK308.out 2).trans rfl; have hcz13_3:w10.cell? ⟨gb308,3,none⟩ = some (.slice A1_3 l1_3.length c1_3):=(bc_ BK308.out 3).trans rfl; have hfz13_0:=bz_ BK308.out 0; have hfz13_1:=bz_ BK308.out 1; have hfz13_2:=bz_ BK308.out 2; have hfz13_3:=bz_ BK308.out 3) | ((with_reducible refine gate_callee (f:=28) rfl ?_); refine goesL_ (some 19) rfl rfl Tryz.func28 (by kernel_rfl) rfl #[.slice A0_2 l0_2.length c0_2,.slice A1_2 l1_2.length c1_2] rfl ob_ ?_; (with_reducible refine (laws_eqIntS.calls k _ _ l0_2 _ _ l1_2 true _ ?side1 ?side2 ?side3 ?side4 A5.out).mono ?_); (case side1 => exact kc_ (Kd.C_below HR0_2.out HB.out)); (case side2 => exact HC0_2.out); (case side3 => exact kc_ (Kd.C_below HR1_2.out HB.out)); (case side4 => exact HC1_2.out); rintro e w' ⟨rfl,⟨nd,rfl⟩⟩; refine ⟨_,rfl,?_⟩) | ((with_reducible refine gate_callee (f:=28) rfl ?_); refine goesL_ (some 25) rfl rfl Tryz.func28 (by kernel_rfl) rfl #[.slice A0_3 l0_3.length c0_3,.slice A1_3 l1_3.length c1_3] rfl ob_ ?_; (with_reducible refine (laws_eqIntS.calls k _ _ l0_3 _ _ l1_3 true _ ?side1 ?side2 ?side3 ?side4 A7.out).mono ?_); (case side1 => repeat (first | exact (Kd.C_below HR0_3.out (bl2_ HB.out GE307.out GE308.out)) | (with_reducible refine Kd.C_alloc ?_ _) | (with_reducible refine Kd.C_drewN ?_ _) | (with_reducible refine Kd.C_drew ?_))); (case side2 => exact HC0_3.out); (case side3 => repeat (first | exact (Kd.C_below HR1_3.out (bl2_ HB.out GE307.out GE308.out)) | (with_reducible refine Kd.C_alloc ?_ _) | (with_reducible refine Kd.C_drewN ?_ _) | (with_reducible refine Kd.C_drew ?_))); (case side4 => exact HC1_3.out); rintro e w' ⟨rfl,⟨nd,rfl⟩⟩; refine ⟨_,rfl,?_⟩))
     go_ret
     exact ⟨er_,bl2_ HB.out GE307.out GE308.out⟩
    ·replace c8:=Bool.eq_false_iff.mpr c8
     subst c8
     have H1:(some false) = some r:=by rw [if_neg (show ¬ (false = true) by decide)] at H; exact H
     clear H
     have H:=H1
     clear H1
     obtain rfl:=Option.some.inj H
     go_enter Tryz.func11,Tryz.ntmps11
     go_wp2_with (first | ((with_reducible refine gate_dst (N:=2) rfl ?_); refine boxE_ (N:=2) (cs:=#[.int .i64 a0_0,.int .i64 a0_1,.slice A0_2 l0_2.length c0_2,.slice A0_3 l0_3.length c0_3]) (t:=26) ?_; intro gb307 hg w14 hbox hb; have n0_:=am_ (below_step (bl0_ HB.out) hb); have n1_:=am_ (hbox); have n2_:=am_ ((bs0_ hg HB.out:w.heap.size ≤ gb307)); have n3_:=am_ ((bs0_ hg HB.out:w.heap.size ≤ gb307)); clear HB; have HB:=n0_; have BK307:=n1_; have GW307:=n2_; have GE307:=n3_; clear n0_ n1_ n2_ n3_; clear hb hbox hg) | ((with_reducible refine gate_dst (N:=3) rfl ?_); refine boxE_ (N:=3) (cs:=#[.int .i64 a1_0,.int .i64 a1_1,.slice A1_2 l1_2.length c1_2,.slice A1_3 l1_3.length c1_3]) (t:=26) ?_; intro gb308 hg w15 hbox hb; have n0_:=am_ (bb_ BK307.out hb); have n1_:=am_ (below_step (bl1_ HB.out GE307.out) hb); have n2_:=am_ (hbox); have n3_:=am_ ((bs1_ hg HB.out GE307.out:w.heap.size ≤ gb308)); have n4_:=am_ ((bs1_ hg HB.out GE307.out:w.heap.size ≤ gb308)); have n5_:=am_ ((nl_ hg BK307.out:gb307 ≠ gb308)); have n6_:=am_ ((ng_ hg BK307.out:gb308 ≠ gb307)); clear BK307; clear HB; have BK307:=n0_; have HB:=n1_; have BK308:=n2_; have GW308:=n3_; have GE308:=n4_; have NB307_308:=n5_; have NB308_307:=n6_; clear n0_ n1_ n2_ n3_ n4_ n5_ n6_; clear hb hbox hg; have hnb16:=NB307_308.out; have hnc16:=NB308_307.out; have hcz17_0:w15.cell? ⟨gb307,0,none⟩ = some (.int .i64 a0_0):=(bc_ BK307.out 0).trans rfl; have hcz17_1:w15.cell? ⟨gb307,1,none⟩ = some (.int .i64 a0_1):=(bc_ BK307.out 1).trans rfl; have hcz17_2:w15.cell? ⟨gb307,2,none⟩ = some (.slice A0_2 l0_2.length c0_2):=(bc_ BK307.out 2).trans rfl; have hcz17_3:w15.cell? ⟨gb307,3,none⟩ = some (.slice A0_3 l0_3.length c0_3):=(bc_ BK307.out 3).trans rfl; have hfz17_0:=bz_ BK307.out 0; have hfz17_1:=bz_ BK307.out 1; have hfz17_2:=bz_ BK307.out 2; have hfz17_3:=bz_ BK307.out 3; have hcz18_0:w15.cell? ⟨gb308,0,none⟩ = some (.int .i64 a1_0):=(bc_ BK308.out 0).trans rfl; have hcz18_1:w15.cell? ⟨gb308,1,none⟩ = some (.int .i64 a1_1):=(bc_ BK308.out 1).trans rfl; have hcz18_2:w15.cell? ⟨gb308,2,none⟩ = some (.slice A1_2 l1_2.length c1_2):=(bc_ BK308.out 2).trans rfl; have hcz18_3:w15.cell? ⟨gb308,3,none⟩ = some (.slice A1_3 l1_3.length c1_3):=(bc_ BK308.out 3).trans rfl; have hfz18_0:=bz_ BK308.out 0; have hfz18_1:=bz_ BK308.out 1; have hfz18_2:=bz_ BK308.out 2; have hfz18_3:=bz_ BK308.out 3) | ((with_reducible refine gate_callee (f:=28) rfl ?_); refine goesL_ (some 19) rfl rfl Tryz.func28 (by kernel_rfl) rfl #[.slice A0_2 l0_2.length c0_2,.slice A1_2 l1_2.length c1_2] rfl ob_ ?_; (with_reducible refine (laws_eqIntS.calls k _ _ l0_2 _ _ l1_2 true _ ?side1 ?side2 ?side3 ?side4 A5.out).mono ?_); (case side1 => exact kc_ (Kd.C_below HR0_2.out HB.out)); (case side2 => exact HC0_2.out); (case side3 => exact kc_ (Kd.C_below HR1_2.out HB.out)); (case side4 => exact HC1_2.out); rintro e w' ⟨rfl,⟨nd,rfl⟩⟩; refine ⟨_,rfl,?_⟩) | ((with_reducible refine gate_callee (f:=28) rfl ?_); refine goesL_ (some 25) rfl rfl Tryz.func28 (by kernel_rfl) rfl #[.slice A0_3 l0_3.length c0_3,.slice A1_3 l1_3.length c1_3] rfl ob_ ?_; (with_reducible refine (laws_eqIntS.calls k _ _ l0_3 _ _ l1_3 false _ ?side1 ?side2 ?side3 ?side4 A7.out).mono ?_); (case side1 => repeat (first | exact (Kd.C_below HR0_3.out (bl2_ HB.out GE307.out GE308.out)) | (with_reducible refine Kd.C_alloc ?_ _) | (with_reducible refine Kd.C_drewN ?_ _) | (with_reducible refine Kd.C_drew ?_))); (case side2 => exact HC0_3.out); (case side3 => repeat (first | exact (Kd.C_below HR1_3.out (bl2_ HB.out GE307.out GE308.out)) | (with_reducible refine Kd.C_alloc ?_ _) | (with_reducible refine Kd.C_drewN ?_ _) | (with_reducible refine Kd.C_drew ?_))); (case side4 => exact HC1_3.out); rintro e w' ⟨rfl,⟨nd,rfl⟩⟩; refine ⟨_,rfl,?_⟩))
     go_ret
     exact ⟨er_,bl2_ HB.out GE307.out GE308.out⟩
   ·replace c6:=Bool.eq_false_iff.mpr c6
    subst c6
    have H1:(some false) = some r:=by rw [if_neg (show ¬ (false = true) by decide)] at H; exact H
    clear H
    have H:=H1
    clear H1
    obtain rfl:=Option.some.inj H
    go_enter Tryz.func11,Tryz.ntmps11
    go_wp2_with (first | ((with_reducible refine gate_dst (N:=2) rfl ?_); refine boxE_ (N:=2) (cs:=#[.int .i64 a0_0,.int .i64 a0_1,.slice A0_2 l0_2.length c0_2,.slice A0_3 l0_3.length c0_3]) (t:=26) ?_; intro gb307 hg w19 hbox hb; have n0_:=am_ (below_step (bl0_ HB.out) hb); have n1_:=am_ (hbox); have n2_:=am_ ((bs0_ hg HB.out:w.heap.size ≤ gb307)); have n3_:=am_ ((bs0_ hg HB.out:w.heap.size ≤ gb307)); clear HB; have HB:=n0_; have BK307:=n1_; have GW307:=n2_; have GE307:=n3_; clear n0_ n1_ n2_ n3_; clear hb hbox hg) | ((with_reducible refine gate_dst (N:=3) rfl ?_); refine boxE_ (N:=3) (cs:=#[.int .i64 a1_0,.int .i64 a1_1,.slice A1_2 l1_2.length c1_2,.slice A1_3 l1_3.length c1_3]) (t:=26) ?_; intro gb308 hg w20 hbox hb; have n0_:=am_ (bb_ BK307.out hb); have n1_:=am_ (below_step (bl1_ HB.out GE307.out) hb); have n2_:=am_ (hbox); have n3_:=am_ ((bs1_ hg HB.out GE307.out:w.heap.size ≤ gb308)); have n4_:=am_ ((bs1_ hg HB.out GE307.out:w.heap.size ≤ gb308)); have n5_:=am_ ((nl_ hg BK307.out:gb307 ≠ gb308)); have n6_:=am_ ((ng_ hg BK307.out:gb308 ≠ gb307)); clear BK307; clear HB; have BK307:=n0_; have HB:=n1_; have BK308:=n2_; have GW308:=n3_; have GE308:=n4_; have NB307_308:=n5_; have NB308_307:=n6_; clear n0_ n1_ n2_ n3_ n4_ n5_ n6_; clear hb hbox hg; have hnb21:=NB307_308.out; have hnc21:=NB308_307.out; have hcz22_0:w20.cell? ⟨gb307,0,none⟩ = some (.int .i64 a0_0):=(bc_ BK307.out 0).trans rfl; have hcz22_1:w20.cell? ⟨gb307,1,none⟩ = some (.int .i64 a0_1):=(bc_ BK307.out 1).trans rfl; have hcz22_2:w20.cell? ⟨gb307,2,none⟩ = some (.slice A0_2 l0_2.length c0_2):=(bc_ BK307.out 2).trans rfl; have hcz22_3:w20.cell? ⟨gb307,3,none⟩ = some (.slice A0_3 l0_3.length c0_3):=(bc_ BK307.out 3).trans rfl; have hfz22_0:=bz_ BK307.out 0; have hfz22_1:=bz_ BK307.out 1; have hfz22_2:=bz_ BK307.out 2; have hfz22_3:=bz_ BK307.out 3; have hcz23_0:w20.cell? ⟨gb308,0,none⟩ = some (.int .i64 a1_0):=(bc_ BK308.out 0).trans rfl; have hcz23_1:w20.cell? ⟨gb308,1,none⟩ = some (.int .i64 a1_1):=(bc_ BK308.out 1).trans rfl; have hcz23_2:w20.cell? ⟨gb308,2,none⟩ = some (.slice A1_2 l1_2.length c1_2):=(bc_ BK308.out 2).trans rfl; have hcz23_3:w20.cell? ⟨gb308,3,none⟩ = some (.slice A1_3 l1_3.length c1_3):=(bc_ BK308.out 3).trans rfl; have hfz23_0:=bz_ BK308.out 0; have hfz23_1:=bz_ BK308.out 1; have hfz23_2:=bz_ BK308.out 2; have hfz23_3:=bz_ BK308.out 3) | ((with_reducible refine gate_callee (f:=28) rfl ?_); refine goesL_ (some 19) rfl rfl Tryz.func28 (by kernel_rfl) rfl #[.slice A0_2 l0_2.length c0_2,.slice A1_2 l1_2.length c1_2] rfl ob_ ?_; (with_reducible refine (laws_eqIntS.calls k _ _ l0_2 _ _ l1_2 false _ ?side1 ?side2 ?side3 ?side4 A5.out).mono ?_); (case side1 => exact kc_ (Kd.C_below HR0_2.out HB.out)); (case side2 => exact HC0_2.out); (case side3 => exact kc_ (Kd.C_below HR1_2.out HB.out)); (case side4 => exact HC1_2.out); rintro e w' ⟨rfl,⟨nd,rfl⟩⟩; refine ⟨_,rfl,?_⟩))
    go_ret
    exact ⟨er_,bl2_ HB.out GE307.out GE308.out⟩
  ·rw [if_neg c4] at H
   have c4b0:(a0_1 == a1_1) = false:=beq_eq_false_iff_ne.mpr c4
   have c4b1:(a0_1 != a1_1) = true:=bne_iff_ne.mpr c4
   obtain rfl:=Option.some.inj H
   go_enter Tryz.func11,Tryz.ntmps11
   go_wp2_with (first | ((with_reducible refine gate_dst (N:=2) rfl ?_); refine boxE_ (N:=2) (cs:=#[.int .i64 a0_0,.int .i64 a0_1,.slice A0_2 l0_2.length c0_2,.slice A0_3 l0_3.length c0_3]) (t:=26) ?_; intro gb307 hg w24 hbox hb; have n0_:=am_ (below_step (bl0_ HB.out) hb); have n1_:=am_ (hbox); have n2_:=am_ ((bs0_ hg HB.out:w.heap.size ≤ gb307)); have n3_:=am_ ((bs0_ hg HB.out:w.heap.size ≤ gb307)); clear HB; have HB:=n0_; have BK307:=n1_; have GW307:=n2_; have GE307:=n3_; clear n0_ n1_ n2_ n3_; clear hb hbox hg) | ((with_reducible refine gate_dst (N:=3) rfl ?_); refine boxE_ (N:=3) (cs:=#[.int .i64 a1_0,.int .i64 a1_1,.slice A1_2 l1_2.length c1_2,.slice A1_3 l1_3.length c1_3]) (t:=26) ?_; intro gb308 hg w25 hbox hb; have n0_:=am_ (bb_ BK307.out hb); have n1_:=am_ (below_step (bl1_ HB.out GE307.out) hb); have n2_:=am_ (hbox); have n3_:=am_ ((bs1_ hg HB.out GE307.out:w.heap.size ≤ gb308)); have n4_:=am_ ((bs1_ hg HB.out GE307.out:w.heap.size ≤ gb308)); have n5_:=am_ ((nl_ hg BK307.out:gb307 ≠ gb308)); have n6_:=am_ ((ng_ hg BK307.out:gb308 ≠ gb307)); clear BK307; clear HB; have BK307:=n0_; have HB:=n1_; have BK308:=n2_; have GW308:=n3_; have GE308:=n4_; have NB307_308:=n5_; have NB308_307:=n6_; clear n0_ n1_ n2_ n3_ n4_ n5_ n6_; clear hb hbox hg; have hnb26:=NB307_308.out; have hnc26:=NB308_307.out; have hcz27_0:w25.cell? ⟨gb307,0,none⟩ = some (.int .i64 a0_0):=(bc_ BK307.out 0).trans rfl; have hcz27_1:w25.cell? ⟨gb307,1,none⟩ = some (.int .i64 a0_1):=(bc_ BK307.out 1).trans rfl; have hcz27_2:w25.cell? ⟨gb307,2,none⟩ = some (.slice A0_2 l0_2.length c0_2):=(bc_ BK307.out 2).trans rfl; have hcz27_3:w25.cell? ⟨gb307,3,none⟩ = some (.slice A0_3 l0_3.length c0_3):=(bc_ BK307.out 3).trans rfl; have hfz27_0:=bz_ BK307.out 0; have hfz27_1:=bz_ BK307.out 1; have hfz27_2:=bz_ BK307.out 2; have hfz27_3:=bz_ BK307.out 3; have hcz28_0:w25.cell? ⟨gb308,0,none⟩ = some (.int .i64 a1_0):=(bc_ BK308.out 0).trans rfl; have hcz28_1:w25.cell? ⟨gb308,1,none⟩ = some (.int .i64 a1_1):=(bc_ BK308.out 1).trans rfl; have hcz28_2:w25.cell? ⟨gb308,2,none⟩ = some (.slice A1_2 l1_2.length c1_2):=(bc_ BK308.out 2).trans rfl; have hcz28_3:w25.cell? ⟨gb308,3,none⟩ = some (.slice A1_3 l1_3.length c1_3):=(bc_ BK308.out 3).trans rfl; have hfz28_0:=bz_ BK308.out 0; have hfz28_1:=bz_ BK308.out 1; have hfz28_2:=bz_ BK308.out 2; have hfz28_3:=bz_ BK308.out 3))
   go_ret
   exact ⟨er_,bl2_ HB.out GE307.out GE308.out⟩
 ·rw [if_neg c3] at H
  have c3b0:(a0_0 == a1_0) = false:=beq_eq_false_iff_ne.mpr c3
  have c3b1:(a0_0 != a1_0) = true:=bne_iff_ne.mpr c3
  obtain rfl:=Option.some.inj H
  go_enter Tryz.func11,Tryz.ntmps11
  go_wp2_with (first | ((with_reducible refine gate_dst (N:=2) rfl ?_); refine boxE_ (N:=2) (cs:=#[.int .i64 a0_0,.int .i64 a0_1,.slice A0_2 l0_2.length c0_2,.slice A0_3 l0_3.length c0_3]) (t:=26) ?_; intro gb307 hg w29 hbox hb; have n0_:=am_ (below_step (bl0_ HB.out) hb); have n1_:=am_ (hbox); have n2_:=am_ ((bs0_ hg HB.out:w.heap.size ≤ gb307)); have n3_:=am_ ((bs0_ hg HB.out:w.heap.size ≤ gb307)); clear HB; have HB:=n0_; have BK307:=n1_; have GW307:=n2_; have GE307:=n3_; clear n0_ n1_ n2_ n3_; clear hb hbox hg) | ((with_reducible refine gate_dst (N:=3) rfl ?_); refine boxE_ (N:=3) (cs:=#[.int .i64 a1_0,.int .i64 a1_1,.slice A1_2 l1_2.length c1_2,.slice A1_3 l1_3.length c1_3]) (t:=26) ?_; intro gb308 hg w30 hbox hb; have n0_:=am_ (bb_ BK307.out hb); have n1_:=am_ (below_step (bl1_ HB.out GE307.out) hb); have n2_:=am_ (hbox); have n3_:=am_ ((bs1_ hg HB.out GE307.out:w.heap.size ≤ gb308)); have n4_:=am_ ((bs1_ hg HB.out GE307.out:w.heap.size ≤ gb308)); have n5_:=am_ ((nl_ hg BK307.out:gb307 ≠ gb308)); have n6_:=am_ ((ng_ hg BK307.out:gb308 ≠ gb307)); clear BK307; clear HB; have BK307:=n0_; have HB:=n1_; have BK308:=n2_; have GW308:=n3_; have GE308:=n4_; have NB307_308:=n5_; have NB308_307:=n6_; clear n0_ n1_ n2_ n3_ n4_ n5_ n6_; clear hb hbox hg; have hnb31:=NB307_308.out; have hnc31:=NB308_307.out; have hcz32_0:w30.cell? ⟨gb307,0,none⟩ = some (.int .i64 a0_0):=(bc_ BK307.out 0).trans rfl; have hcz32_1:w30.cell? ⟨gb307,1,none⟩ = some (.int .i64 a0_1):=(bc_ BK307.out 1).trans rfl; have hcz32_2:w30.cell? ⟨gb307,2,none⟩ = some (.slice A0_2 l0_2.length c0_2):=(bc_ BK307.out 2).trans rfl; have hcz32_3:w30.cell? ⟨gb307,3,none⟩ = some (.slice A0_3 l0_3.length c0_3):=(bc_ BK307.out 3).trans rfl; have hfz32_0:=bz_ BK307.out 0; have hfz32_1:=bz_ BK307.out 1; have hfz32_2:=bz_ BK307.out 2; have hfz32_3:=bz_ BK307.out 3; have hcz33_0:w30.cell? ⟨gb308,0,none⟩ = some (.int .i64 a1_0):=(bc_ BK308.out 0).trans rfl; have hcz33_1:w30.cell? ⟨gb308,1,none⟩ = some (.int .i64 a1_1):=(bc_ BK308.out 1).trans rfl; have hcz33_2:w30.cell? ⟨gb308,2,none⟩ = some (.slice A1_2 l1_2.length c1_2):=(bc_ BK308.out 2).trans rfl; have hcz33_3:w30.cell? ⟨gb308,3,none⟩ = some (.slice A1_3 l1_3.length c1_3):=(bc_ BK308.out 3).trans rfl; have hfz33_0:=bz_ BK308.out 0; have hfz33_1:=bz_ BK308.out 1; have hfz33_2:=bz_ BK308.out 2; have hfz33_3:=bz_ BK308.out 3))
  go_ret
  exact ⟨er_,bl2_ HB.out GE307.out GE308.out⟩


def laws_heldFigure.f (k:Nat) (a0_0:Int) (a0_1:Int) (l0_2:List Int) (l0_3:List Int) (a1:Int):Option (Int):=(laws_heldIntS.f k l0_2 a1).bind fun t327 => (if t327 < 0 then (some (-1)) else ((laws_heldIntS.f k l0_3 t327).bind fun t328 => (if t328 < 0 then (some (-1)) else (some t328))))
theorem laws_heldFigure.mono:∀ a0 a1 a2 a3 a4 k,LeO (laws_heldFigure.f k a0 a1 a2 a3 a4) (laws_heldFigure.f (k + 1) a0 a1 a2 a3 a4):=by
  intro a0 a1 a2 a3 a4 k
  unfold laws_heldFigure.f
  repeat' first | (with_reducible first | exact laws_heldIntS.mono _ _ _ | exact LeO.refl _ | exact LeO.none _ | refine LeO.ite ?_ ?_ | refine LeO.bind ?_ (fun _ => ?_)) | exact laws_heldIntS.mono _ _ _

theorem eqFigure_refl (x y:Int) (l m:List Int) (hl:l.length ≤ 4000000) (hm:m.length ≤ 4000000) (k:Nat) (hk:4000000 < k):laws_eqFigure.f k x y l m x y l m = some true:=by
  unfold laws_eqFigure.f
  rw [if_pos rfl,if_pos rfl,eqIntS_refl l hl k (by omega),Option.bind_some,if_pos rfl,eqIntS_refl m hm k (by omega),Option.bind_some,if_pos rfl]

def laws_eqFigureS.l0:Nat → List (S26) → List (S26) → Int → Option (Bool)
 | 0,_,_,_ => none
 | k + 1,x0,x1,x5 => if x5 < (x0.length:Int) then (if 0 ≤ x5 then (if x5 < (x1.length:Int) then ((laws_eqFigure.f k ((rd_T26 x0 x5).f0) ((rd_T26 x0 x5).f1) ((rd_T26 x0 x5).f2) ((rd_T26 x0 x5).f3) ((rd_T26 x1 x5).f0) ((rd_T26 x1 x5).f1) ((rd_T26 x1 x5).f2) ((rd_T26 x1 x5).f3)).bind fun t342 => (if t342 = true then (laws_eqFigureS.l0 k x0 x1 (wrap64 (x5 + 1))) else (some false))) else (none)) else (none)) else (some true)
def laws_eqFigureS.f (k:Nat) (l0:List (S26)) (l1:List (S26)):Option (Bool):=if (l0.length:Int) = (l1.length:Int) then (laws_eqFigureS.l0 k l0 l1 0) else (some false)
theorem laws_eqFigureS.mono_l:∀ k,(∀ y0 y1 y2,LeO (laws_eqFigureS.l0 k y0 y1 y2) (laws_eqFigureS.l0 (k + 1) y0 y1 y2))
 | 0 => fun _ _ _ r h => by simp [laws_eqFigureS.l0] at h
 | k + 1 => by
  have ih0:=laws_eqFigureS.mono_l k
  ·intro y0 y1 y2
   unfold laws_eqFigureS.l0
   repeat' first | (with_reducible first | exact ih0 _ _ _ | exact laws_eqFigure.mono _ _ _ _ _ _ _ _ _ | exact LeO.refl _ | exact LeO.none _ | refine LeO.ite ?_ ?_ | refine LeO.bind ?_ (fun _ => ?_)) | exact ih0 _ _ _ | exact laws_eqFigure.mono _ _ _ _ _ _ _ _ _
theorem laws_eqFigureS.mono:∀ a0 a1 k,LeO (laws_eqFigureS.f k a0 a1) (laws_eqFigureS.f (k + 1) a0 a1):=by
 intro a0 a1 k
 have ih0:=laws_eqFigureS.mono_l k
 unfold laws_eqFigureS.f
 repeat' first | (with_reducible first | exact ih0 _ _ _ | exact laws_eqFigure.mono _ _ _ _ _ _ _ _ _ | exact LeO.refl _ | exact LeO.none _ | refine LeO.ite ?_ ?_ | refine LeO.bind ?_ (fun _ => ?_)) | exact ih0 _ _ _ | exact laws_eqFigure.mono _ _ _ _ _ _ _ _ _
def laws_eqFigureS.T6:Bool × List (List Nat × List Nat):=(true,[([],[]),([],[]),([0,1],[0,1]),([2],[2]),([],[]),([],[]),([4,5],[4,5]),([6],[6]),([3,7],[3,7]),([8],[8])])
def laws_eqFigureS.B6:List Nat:=[0,0,3,7,0,0,48,112,255,511]
theorem laws_eqFigureS.tab6:rtab .any (opsOf Tryz.f19 6) = laws_eqFigureS.T6:=by kernel_rfl
theorem laws_eqFigureS.bits6:waitsOk laws_eqFigureS.T6.2 laws_eqFigureS.B6 = true:=by kernel_rfl
set_option maxHeartbeats 8000000 in
set_option maxRecDepth 100000 in
theorem laws_eqFigureS.calls (k:Nat) (A0:Option Addr) (c0:Nat) (l0:List (S26)) (A1:Option Addr) (c1:Nat) (l1:List (S26)) (r:Bool) (w:World) (hr0:Kd.C k26 w A0 l0.length l0) (hc0:l0.length ≤ c0) (hr1:Kd.C k26 w A1 l1.length l1) (hc1:l1.length ≤ c1) (h:laws_eqFigureS.f k l0 l1 = some r) :
  Calls Tryz.prog 19 #[.slice A0 l0.length c0,.slice A1 l1.length c1] w fun e w' => e = .returned (.bool r) ∧ Below w.heap.size w w':=by
 have hu26:=Tryz.underlying26
 have HR0:=am_ hr0
 have HC0:=am_ hc0
 clear hr0 hc0
 have HR1:=am_ hr1
 have HC1:=am_ hc1
 clear hr1 hc1
 have HB:=am_ (Below.refl w.heap.size w)
 have H:(if (l0.length:Int) = (l1.length:Int) then (laws_eqFigureS.l0 k l0 l1 0) else (some false)) = some r:=h
 clear h
 by_cases c3:(l0.length:Int) = (l1.length:Int)
 ·rw [if_pos c3] at H
  have c3b0:((l0.length:Int) == (l1.length:Int)) = true:=beq_iff_eq.mpr c3
  have c3b1:((l0.length:Int) != (l1.length:Int)) = false:=bne_eq_false_iff_eq.mpr c3
  have c3b2:(l0.length == l1.length) = true:=by first | simpa using c3 | (simp at c3 ⊢; omega)
  clear c3
  have H':=am_ H
  clear H
  go_enter Tryz.func19,Tryz.ntmps19
  go_wp2
  go_loopg [5] k (fun kq v5 w' => ∃ (x5_1:Int),v5 = .int .i64 x5_1 ∧ Aside0 (laws_eqFigureS.l0 kq l0 l1 x5_1 = some r) ∧ Aside0 (kq ≤ k) ∧ Aside0 (Below w.heap.size w w'))
  case atStart => exact ⟨(0),rs_,H',⟨Nat.le_refl _⟩,⟨bl0_ HB.out⟩⟩
  case round =>
   clear H'
   try clear c1
   try clear p2
   try clear c3
   try clear c3b0
   try clear c3b1
   try clear c3b2
   obtain ⟨x5_1,rfl,HA,HK1,HB⟩:=hrel
   cases gk with
   | zero => exact absurd HA.out (by simp [laws_eqFigureS.l0])
   | succ k1 =>
    have H:=HA.out
    clear HA
    simp only [laws_eqFigureS.l0] at H
    by_cases c4:x5_1 < (l0.length:Int)
    ·rw [if_pos c4] at H
     have c4b0:decide (x5_1 < (l0.length:Int)) = true:=decide_eq_true c4
     clear c4
     by_cases c5:0 ≤ x5_1
     ·rw [if_pos c5] at H
      have c5b0:decide (0 ≤ x5_1) = true:=decide_eq_true c5
      clear c5
      by_cases c6:x5_1 < (l1.length:Int)
      ·rw [if_pos c6] at H
       have c6b0:decide (x5_1 < (l1.length:Int)) = true:=decide_eq_true c6
       clear c6
       replace H:=bi_ H
       obtain ⟨t342,A70,H⟩:=H
       replace H:(if t342 = true then (laws_eqFigureS.l0 k1 l0 l1 (wrap64 (x5_1 + 1))) else (some false)) = some r:=H
       have A7:=am_ A70
       clear A70
       by_cases c8:t342 = true
       ·subst c8
        have H1:(laws_eqFigureS.l0 k1 l0 l1 (wrap64 (x5_1 + 1))) = some r:=by rw [if_pos rfl] at H; exact H
        clear H
        have H:=H1
        clear H1
        have H':=am_ H
        clear H
        try go_wp2
        have n0_:=am_ (below_drew1 HB.out)
        clear HB
        have HB:=n0_
        clear n0_
        have p340:0 ≤ (x5_1:Int):=of_decide_eq_true as_
        have q340:x5_1 < (l0.length:Int):=of_decide_eq_true as_
        obtain ⟨ad340,A340_2,c340_2,A340_3,c340_3,e340,hx340_0,hx340_1,hx340_2,hx340_3,hl340_2,hi340_2,hl340_3,hi340_3⟩:=at_T26 HR0.out x5_1 p340 q340
        have hw340_3:=hx340_3
        have hw340_2:=hx340_2
        have hw340_1:=hx340_1
        have hw340_0:=hx340_0
        cases e340
        replace hx340_0:=(HB.out.cell (wl_ w _ hx340_0)).trans hx340_0
        replace hx340_1:=(HB.out.cell (wl_ w _ hx340_1)).trans hx340_1
        replace hx340_2:=(HB.out.cell (wl_ w _ hx340_2)).trans hx340_2
        replace hx340_3:=(HB.out.cell (wl_ w _ hx340_3)).trans hx340_3
        have HR340_2:=am_ hi340_2
        have HC340_2:=am_ hl340_2
        clear hi340_2 hl340_2
        have HR340_3:=am_ hi340_3
        have HC340_3:=am_ hl340_3
        clear hi340_3 hl340_3
        replace p340:=eq_true p340
        replace q340:=eq_true q340
        have p341:0 ≤ (x5_1:Int):=of_decide_eq_true as_
        have q341:x5_1 < (l1.length:Int):=of_decide_eq_true as_
        obtain ⟨ad341,A341_2,c341_2,A341_3,c341_3,e341,hx341_0,hx341_1,hx341_2,hx341_3,hl341_2,hi341_2,hl341_3,hi341_3⟩:=at_T26 HR1.out x5_1 p341 q341
        have hw341_3:=hx341_3
        have hw341_2:=hx341_2
        have hw341_1:=hx341_1
        have hw341_0:=hx341_0
        cases e341
        replace hx341_0:=(HB.out.cell (wl_ w _ hx341_0)).trans hx341_0
        replace hx341_1:=(HB.out.cell (wl_ w _ hx341_1)).trans hx341_1
        replace hx341_2:=(HB.out.cell (wl_ w _ hx341_2)).trans hx341_2
        replace hx341_3:=(HB.out.cell (wl_ w _ hx341_3)).trans hx341_3
        have HR341_2:=am_ hi341_2
        have HC341_2:=am_ hl341_2
        clear hi341_2 hl341_2
        have HR341_3:=am_ hi341_3
        have HC341_3:=am_ hl341_3
        clear hi341_3 hl341_3
        replace p341:=eq_true p341
        replace q341:=eq_true q341
        refine start_ (n:=10) (S:=fun w' => w'.cell? (ad340.add ((x5_1).toNat * 4)) = some (.int .i64 ((rd_T26 l0 x5_1).f0)) ∧ w'.cell? ⟨(ad340.add ((x5_1).toNat * 4)).block,(ad340.add ((x5_1).toNat * 4)).off + 1,none⟩ = some (.int .i64 ((rd_T26 l0 x5_1).f1)) ∧ w'.cell? ⟨(ad340.add ((x5_1).toNat * 4)).block,(ad340.add ((x5_1).toNat * 4)).off + 2,none⟩ = some (.slice A340_2 ((rd_T26 l0 x5_1).f2).length c340_2) ∧ w'.cell? ⟨(ad340.add ((x5_1).toNat * 4)).block,(ad340.add ((x5_1).toNat * 4)).off + 3,none⟩ = some (.slice A340_3 ((rd_T26 l0 x5_1).f3).length c340_3) ∧ w'.cell? (ad341.add ((x5_1).toNat * 4)) = some (.int .i64 ((rd_T26 l1 x5_1).f0)) ∧ w'.cell? ⟨(ad341.add ((x5_1).toNat * 4)).block,(ad341.add ((x5_1).toNat * 4)).off + 1,none⟩ = some (.int .i64 ((rd_T26 l1 x5_1).f1)) ∧ w'.cell? ⟨(ad341.add ((x5_1).toNat * 4)).block,(ad341.add ((x5_1).toNat * 4)).off + 2,none⟩ = some (.slice A341_2 ((rd_T26 l1 x5_1).f2).length c341_2) ∧ w'.cell? ⟨(ad341.add ((x5_1).toNat * 4)).block,(ad341.add ((x5_1).toNat * 4)).off + 3,none⟩ = some (.slice A341_3 ((rd_T26 l1 x5_1).f3).length c341_3)) (ds:=[]) #[false,false,false,false,false,false,false,false,false,false] (by kernel_rfl) rfl rfl ⟨((HB.out.cell (wl_ w _ hw340_0)).trans hw340_0),((HB.out.cell (wl_ w _ hw340_1)).trans hw340_1),((HB.out.cell (wl_ w _ hw340_2)).trans hw340_2),((HB.out.cell (wl_ w _ hw340_3)).trans hw340_3),((HB.out.cell (wl_ w _ hw341_0)).trans hw341_0),((HB.out.cell (wl_ w _ hw341_1)).trans hw341_1),((HB.out.cell (wl_ w _ hw341_2)).trans hw341_2),((HB.out.cell (wl_ w _ hw341_3)).trans hw341_3)⟩ (fun hHeld => ?_); refine with_tabW laws_eqFigureS.tab6 laws_eqFigureS.bits6 (fun HT_ HW_ => ?_)
        generalize wr.drew = w9 at HB HR340_2 HR340_3 HR341_2 HR341_3 hx340_0 hx340_1 hx340_2 hx340_3 hx341_0 hx341_1 hx341_2 hx341_3 hHeld ⊢
        refine pure_ (i:=0) (N:=some 17) (v:=?_) (a':=?_) #[true,false,false,false,false,false,false,false,false,false] rfl rfl (any_of HT_.out (by kernel_rfl)) (fun _ _ _ h => h) (Or.inl ⟨by rfl,?_⟩) ?_ ?_
        rotate_left
        ·intro w'
         go_simp
         with_reducible rfl
        rotate_left
        ·simp only [Act.put,List.setIfInBounds_toArray,List.set_cons_zero,List.set_cons_succ,i64_w,i32_w]
         rfl
        refine pure_ (i:=1) (N:=some 18) (v:=?_) (a':=?_) #[true,true,false,false,false,false,false,false,false,false] rfl rfl (any_of HT_.out (by kernel_rfl)) (fun _ _ _ h => h) (Or.inl ⟨by rfl,?_⟩) ?_ ?_
        rotate_left
        ·intro w'
         go_simp
         with_reducible rfl
        rotate_left
        ·simp only [Act.put,List.setIfInBounds_toArray,List.set_cons_zero,List.set_cons_succ,i64_w,i32_w]
         rfl
        refine pure_ (i:=2) (N:=some 19) (v:=?_) (a':=?_) #[true,true,true,false,false,false,false,false,false,false] rfl rfl (any_of HT_.out (by kernel_rfl)) (fun _ _ _ h => h) (Or.inl ⟨by rfl,?_⟩) ?_ ?_
        rotate_left
        ·intro w'
         go_simp
         with_reducible rfl
        rotate_left
        ·simp only [Act.put,List.setIfInBounds_toArray,List.set_cons_zero,List.set_cons_succ,i64_w,i32_w]
         rfl
        refine pure_ (i:=4) (N:=some 21) (v:=?_) (a':=?_) #[true,true,true,false,true,false,false,false,false,false] rfl rfl (any_of HT_.out (by kernel_rfl)) (fun _ _ _ h => h) (Or.inl ⟨by rfl,?_⟩) ?_ ?_
        rotate_left
        ·intro w'
         go_simp
         with_reducible rfl
        rotate_left
        ·simp only [Act.put,List.setIfInBounds_toArray,List.set_cons_zero,List.set_cons_succ,i64_w,i32_w]
         rfl
        refine pure_ (i:=5) (N:=some 22) (v:=?_) (a':=?_) #[true,true,true,false,true,true,false,false,false,false] rfl rfl (any_of HT_.out (by kernel_rfl)) (fun _ _ _ h => h) (Or.inl ⟨by rfl,?_⟩) ?_ ?_
        rotate_left
        ·intro w'
         go_simp
         with_reducible rfl
        rotate_left
        ·simp only [Act.put,List.setIfInBounds_toArray,List.set_cons_zero,List.set_cons_succ,i64_w,i32_w]
         rfl
        refine pure_ (i:=6) (N:=some 23) (v:=?_) (a':=?_) #[true,true,true,false,true,true,true,false,false,false] rfl rfl (any_of HT_.out (by kernel_rfl)) (fun _ _ _ h => h) (Or.inl ⟨by rfl,?_⟩) ?_ ?_
        rotate_left
        ·intro w'
         go_simp
         with_reducible rfl
        rotate_left
        ·simp only [Act.put,List.setIfInBounds_toArray,List.set_cons_zero,List.set_cons_succ,i64_w,i32_w]
         rfl
        refine take_ (i:=3) (N:=some 20) (v:=?_) (a':=?_) #[true,true,true,true,true,true,true,false,false,false] rfl rfl (take_ofW HT_.out HW_.out (by kernel_rfl)) (fun _ _ _ h => h) (Or.inl ⟨by rfl,?_⟩) hHeld ?_ ?_
        rotate_left
        ·rintro w' ⟨s0,s1,s2,s3,s4,s5,s6,s7⟩
         go_simp
         with_reducible rfl
        rotate_left
        ·simp only [Act.put,List.setIfInBounds_toArray,List.set_cons_zero,List.set_cons_succ,i64_w,i32_w]
         rfl
        refine take_ (i:=7) (N:=some 24) (v:=?_) (a':=?_) #[true,true,true,true,true,true,true,true,false,false] rfl rfl (take_ofW HT_.out HW_.out (by kernel_rfl)) (fun _ _ _ h => h) (Or.inl ⟨by rfl,?_⟩) hHeld ?_ ?_
        rotate_left
        ·rintro w' ⟨s0,s1,s2,s3,s4,s5,s6,s7⟩
         go_simp
         with_reducible rfl
        rotate_left
        ·simp only [Act.put,List.setIfInBounds_toArray,List.set_cons_zero,List.set_cons_succ,i64_w,i32_w]
         rfl
        refine one_ (i:=8) (N:=some 25) #[true,true,true,true,true,true,true,true,true,false] rfl rfl (one_of HT_.out (by kernel_rfl)) (by decide) (fun K hK => ?_)
        refine goes_ Tryz.func11 (by kernel_rfl) rfl #[.agg #[.int .i64 ((rd_T26 l0 x5_1).f0),.int .i64 ((rd_T26 l0 x5_1).f1),.slice A340_2 ((rd_T26 l0 x5_1).f2).length c340_2,.slice A340_3 ((rd_T26 l0 x5_1).f3).length c340_3],.agg #[.int .i64 ((rd_T26 l1 x5_1).f0),.int .i64 ((rd_T26 l1 x5_1).f1),.slice A341_2 ((rd_T26 l1 x5_1).f2).length c341_2,.slice A341_3 ((rd_T26 l1 x5_1).f3).length c341_3]] (by rfl) rfl rfl ob_ ?_
        with_reducible refine (laws_eqFigure.calls k1 ((rd_T26 l0 x5_1).f0) ((rd_T26 l0 x5_1).f1) _ _ ((rd_T26 l0 x5_1).f2) _ _ ((rd_T26 l0 x5_1).f3) ((rd_T26 l1 x5_1).f0) ((rd_T26 l1 x5_1).f1) _ _ ((rd_T26 l1 x5_1).f2) _ _ ((rd_T26 l1 x5_1).f3) true _ ?side1 ?side2 ?side3 ?side4 ?side5 ?side6 ?side7 ?side8 A7.out).mono ?_
        (case side1 => exact kc_ (Kd.C_below HR340_2.out HB.out))
        (case side2 => exact HC340_2.out)
        (case side3 => exact kc_ (Kd.C_below HR340_3.out HB.out))
        (case side4 => exact HC340_3.out)
        (case side5 => exact kc_ (Kd.C_below HR341_2.out HB.out))
        (case side6 => exact HC341_2.out)
        (case side7 => exact kc_ (Kd.C_below HR341_3.out HB.out))
        (case side8 => exact HC341_3.out)
        rintro e w10 ⟨rfl,hb⟩
        refine ⟨_,rfl,?_⟩
        have n0_:=am_ (below_step (bl0_ HB.out) hb)
        clear HB
        have HB:=n0_
        clear n0_
        (try clear hb)
        (try clear hb2)
        (try clear hk)
        (try clear hi)
        refine hK.out _ _ ⟨((HB.out.cell (wl_ w _ hw340_0)).trans hw340_0),((HB.out.cell (wl_ w _ hw340_1)).trans hw340_1),((HB.out.cell (wl_ w _ hw340_2)).trans hw340_2),((HB.out.cell (wl_ w _ hw340_3)).trans hw340_3),((HB.out.cell (wl_ w _ hw341_0)).trans hw341_0),((HB.out.cell (wl_ w _ hw341_1)).trans hw341_1),((HB.out.cell (wl_ w _ hw341_2)).trans hw341_2),((HB.out.cell (wl_ w _ hw341_3)).trans hw341_3)⟩ (fun hHeld => ?_)
        clear hK K
        refine norm_ (a':=?_) ?_ ?_
        rotate_left
        ·show Act.put _ (some 25) _ = _
         simp only [Act.put,List.setIfInBounds_toArray,List.set_cons_zero,List.set_cons_succ,i64_w,i32_w]
         rfl
        refine pure_ (i:=9) (N:=some 26) (v:=?_) (a':=?_) #[true,true,true,true,true,true,true,true,true,true] rfl rfl (any_of HT_.out (by kernel_rfl)) (fun _ _ _ h => h) (Or.inl ⟨by rfl,?_⟩) ?_ ?_
        rotate_left
        ·intro w'
         go_simp
         with_reducible rfl
        rotate_left
        ·simp only [Act.put,List.setIfInBounds_toArray,List.set_cons_zero,List.set_cons_succ,i64_w,i32_w]
         rfl
        refine done_ (done_of HT_.out (by kernel_rfl)) ?_
        try go_wp2
        go_roundg k1
        case measure => have:=HK1.out; omega
        case rel => exact ⟨(wrap64 (x5_1 + 1)),rs_,H',⟨by have:=HK1.out; omega⟩,⟨bl0_ HB.out⟩⟩
       ·replace c8:=Bool.eq_false_iff.mpr c8
        subst c8
        have H1:(some false) = some r:=by rw [if_neg (show ¬ (false = true) by decide)] at H; exact H
        clear H
        have H:=H1
        clear H1
        obtain rfl:=Option.some.inj H
        try go_wp2
        have n0_:=am_ (below_drew1 HB.out)
        clear HB
        have HB:=n0_
        clear n0_
        have p340:0 ≤ (x5_1:Int):=of_decide_eq_true as_
        have q340:x5_1 < (l0.length:Int):=of_decide_eq_true as_
        obtain ⟨ad340,A340_2,c340_2,A340_3,c340_3,e340,hx340_0,hx340_1,hx340_2,hx340_3,hl340_2,hi340_2,hl340_3,hi340_3⟩:=at_T26 HR0.out x5_1 p340 q340
        have hw340_3:=hx340_3
        have hw340_2:=hx340_2
        have hw340_1:=hx340_1
        have hw340_0:=hx340_0
        cases e340
        replace hx340_0:=(HB.out.cell (wl_ w _ hx340_0)).trans hx340_0
        replace hx340_1:=(HB.out.cell (wl_ w _ hx340_1)).trans hx340_1
        replace hx340_2:=(HB.out.cell (wl_ w _ hx340_2)).trans hx340_2
        replace hx340_3:=(HB.out.cell (wl_ w _ hx340_3)).trans hx340_3
        have HR340_2:=am_ hi340_2
        have HC340_2:=am_ hl340_2
        clear hi340_2 hl340_2
        have HR340_3:=am_ hi340_3
        have HC340_3:=am_ hl340_3
        clear hi340_3 hl340_3
        replace p340:=eq_true p340
        replace q340:=eq_true q340
        have p341:0 ≤ (x5_1:Int):=of_decide_eq_true as_
        have q341:x5_1 < (l1.length:Int):=of_decide_eq_true as_
        obtain ⟨ad341,A341_2,c341_2,A341_3,c341_3,e341,hx341_0,hx341_1,hx341_2,hx341_3,hl341_2,hi341_2,hl341_3,hi341_3⟩:=at_T26 HR1.out x5_1 p341 q341
        have hw341_3:=hx341_3
        have hw341_2:=hx341_2
        have hw341_1:=hx341_1
        have hw341_0:=hx341_0
        cases e341
        replace hx341_0:=(HB.out.cell (wl_ w _ hx341_0)).trans hx341_0
        replace hx341_1:=(HB.out.cell (wl_ w _ hx341_1)).trans hx341_1
        replace hx341_2:=(HB.out.cell (wl_ w _ hx341_2)).trans hx341_2
        replace hx341_3:=(HB.out.cell (wl_ w _ hx341_3)).trans hx341_3
        have HR341_2:=am_ hi341_2
        have HC341_2:=am_ hl341_2
        clear hi341_2 hl341_2
        have HR341_3:=am_ hi341_3
        have HC341_3:=am_ hl341_3
        clear hi341_3 hl341_3
        replace p341:=eq_true p341
        replace q341:=eq_true q341
        refine start_ (n:=10) (S:=fun w' => w'.cell? (ad340.add ((x5_1).toNat * 4)) = some (.int .i64 ((rd_T26 l0 x5_1).f0)) ∧ w'.cell? ⟨(ad340.add ((x5_1).toNat * 4)).block,(ad340.add ((x5_1).toNat * 4)).off + 1,none⟩ = some (.int .i64 ((rd_T26 l0 x5_1).f1)) ∧ w'.cell? ⟨(ad340.add ((x5_1).toNat * 4)).block,(ad340.add ((x5_1).toNat * 4)).off + 2,none⟩ = some (.slice A340_2 ((rd_T26 l0 x5_1).f2).length c340_2) ∧ w'.cell? ⟨(ad340.add ((x5_1).toNat * 4)).block,(ad340.add ((x5_1).toNat * 4)).off + 3,none⟩ = some (.slice A340_3 ((rd_T26 l0 x5_1).f3).length c340_3) ∧ w'.cell? (ad341.add ((x5_1).toNat * 4)) = some (.int .i64 ((rd_T26 l1 x5_1).f0)) ∧ w'.cell? ⟨(ad341.add ((x5_1).toNat * 4)).block,(ad341.add ((x5_1).toNat * 4)).off + 1,none⟩ = some (.int .i64 ((rd_T26 l1 x5_1).f1)) ∧ w'.cell? ⟨(ad341.add ((x5_1).toNat * 4)).block,(ad341.add ((x5_1).toNat * 4)).off + 2,none⟩ = some (.slice A341_2 ((rd_T26 l1 x5_1).f2).length c341_2) ∧ w'.cell? ⟨(ad341.add ((x5_1).toNat * 4)).block,(ad341.add ((x5_1).toNat * 4)).off + 3,none⟩ = some (.slice A341_3 ((rd_T26 l1 x5_1).f3).length c341_3)) (ds:=[]) #[false,false,false,false,false,false,false,false,false,false] (by kernel_rfl) rfl rfl ⟨((HB.out.cell (wl_ w _ hw340_0)).trans hw340_0),((HB.out.cell (wl_ w _ hw340_1)).trans hw340_1),((HB.out.cell (wl_ w _ hw340_2)).trans hw340_2),((HB.out.cell (wl_ w _ hw340_3)).trans hw340_3),((HB.out.cell (wl_ w _ hw341_0)).trans hw341_0),((HB.out.cell (wl_ w _ hw341_1)).trans hw341_1),((HB.out.cell (wl_ w _ hw341_2)).trans hw341_2),((HB.out.cell (wl_ w _ hw341_3)).trans hw341_3)⟩ (fun hHeld => ?_); refine with_tabW laws_eqFigureS.tab6 laws_eqFigureS.bits6 (fun HT_ HW_ => ?_)
        generalize wr.drew = w11 at HB HR340_2 HR340_3 HR341_2 HR341_3 hx340_0 hx340_1 hx340_2 hx340_3 hx341_0 hx341_1 hx341_2 hx341_3 hHeld ⊢
        refine pure_ (i:=0) (N:=some 17) (v:=?_) (a':=?_) #[true,false,false,false,false,false,false,false,false,false] rfl rfl (any_of HT_.out (by kernel_rfl)) (fun _ _ _ h => h) (Or.inl ⟨by rfl,?_⟩) ?_ ?_
        rotate_left
        ·intro w'
         go_simp
         with_reducible rfl
        rotate_left
        ·simp only [Act.put,List.setIfInBounds_toArray,List.set_cons_zero,List.set_cons_succ,i64_w,i32_w]
         rfl
        refine pure_ (i:=1) (N:=some 18) (v:=?_) (a':=?_) #[true,true,false,false,false,false,false,false,false,false] rfl rfl (any_of HT_.out (by kernel_rfl)) (fun _ _ _ h => h) (Or.inl ⟨by rfl,?_⟩) ?_ ?_
        rotate_left
        ·intro w'
         go_simp
         with_reducible rfl
        rotate_left
        ·simp only [Act.put,List.setIfInBounds_toArray,List.set_cons_zero,List.set_cons_succ,i64_w,i32_w]
         rfl
        refine pure_ (i:=2) (N:=some 19) (v:=?_) (a':=?_) #[true,true,true,false,false,false,false,false,false,false] rfl rfl (any_of HT_.out (by kernel_rfl)) (fun _ _ _ h => h) (Or.inl ⟨by rfl,?_⟩) ?_ ?_
        rotate_left
        ·intro w'
         go_simp
         with_reducible rfl
        rotate_left
        ·simp only [Act.put,List.setIfInBounds_toArray,List.set_cons_zero,List.set_cons_succ,i64_w,i32_w]
         rfl
        refine pure_ (i:=4) (N:=some 21) (v:=?_) (a':=?_) #[true,true,true,false,true,false,false,false,false,false] rfl rfl (any_of HT_.out (by kernel_rfl)) (fun _ _ _ h => h) (Or.inl ⟨by rfl,?_⟩) ?_ ?_
        rotate_left
        ·intro w'
         go_simp
         with_reducible rfl
        rotate_left
        ·simp only [Act.put,List.setIfInBounds_toArray,List.set_cons_zero,List.set_cons_succ,i64_w,i32_w]
         rfl
        refine pure_ (i:=5) (N:=some 22) (v:=?_) (a':=?_) #[true,true,true,false,true,true,false,false,false,false] rfl rfl (any_of HT_.out (by kernel_rfl)) (fun _ _ _ h => h) (Or.inl ⟨by rfl,?_⟩) ?_ ?_
        rotate_left
        ·intro w'
         go_simp
         with_reducible rfl
        rotate_left
        ·simp only [Act.put,List.setIfInBounds_toArray,List.set_cons_zero,List.set_cons_succ,i64_w,i32_w]
         rfl
        refine pure_ (i:=6) (N:=some 23) (v:=?_) (a':=?_) #[true,true,true,false,true,true,true,false,false,false] rfl rfl (any_of HT_.out (by kernel_rfl)) (fun _ _ _ h => h) (Or.inl ⟨by rfl,?_⟩) ?_ ?_
        rotate_left
        ·intro w'
         go_simp
         with_reducible rfl
        rotate_left
        ·simp only [Act.put,List.setIfInBounds_toArray,List.set_cons_zero,List.set_cons_succ,i64_w,i32_w]
         rfl
        refine take_ (i:=3) (N:=some 20) (v:=?_) (a':=?_) #[true,true,true,true,true,true,true,false,false,false] rfl rfl (take_ofW HT_.out HW_.out (by kernel_rfl)) (fun _ _ _ h => h) (Or.inl ⟨by rfl,?_⟩) hHeld ?_ ?_
        rotate_left
        ·rintro w' ⟨s0,s1,s2,s3,s4,s5,s6,s7⟩
         go_simp
         with_reducible rfl
        rotate_left
        ·simp only [Act.put,List.setIfInBounds_toArray,List.set_cons_zero,List.set_cons_succ,i64_w,i32_w]
         rfl
        refine take_ (i:=7) (N:=some 24) (v:=?_) (a':=?_) #[true,true,true,true,true,true,true,true,false,false] rfl rfl (take_ofW HT_.out HW_.out (by kernel_rfl)) (fun _ _ _ h => h) (Or.inl ⟨by rfl,?_⟩) hHeld ?_ ?_
        rotate_left
        ·rintro w' ⟨s0,s1,s2,s3,s4,s5,s6,s7⟩
         go_simp
         with_reducible rfl
        rotate_left
        ·simp only [Act.put,List.setIfInBounds_toArray,List.set_cons_zero,List.set_cons_succ,i64_w,i32_w]
         rfl
        refine one_ (i:=8) (N:=some 25) #[true,true,true,true,true,true,true,true,true,false] rfl rfl (one_of HT_.out (by kernel_rfl)) (by decide) (fun K hK => ?_)
        refine goes_ Tryz.func11 (by kernel_rfl) rfl #[.agg #[.int .i64 ((rd_T26 l0 x5_1).f0),.int .i64 ((rd_T26 l0 x5_1).f1),.slice A340_2 ((rd_T26 l0 x5_1).f2).length c340_2,.slice A340_3 ((rd_T26 l0 x5_1).f3).length c340_3],.agg #[.int .i64 ((rd_T26 l1 x5_1).f0),.int .i64 ((rd_T26 l1 x5_1).f1),.slice A341_2 ((rd_T26 l1 x5_1).f2).length c341_2,.slice A341_3 ((rd_T26 l1 x5_1).f3).length c341_3]] (by rfl) rfl rfl ob_ ?_
        with_reducible refine (laws_eqFigure.calls k1 ((rd_T26 l0 x5_1).f0) ((rd_T26 l0 x5_1).f1) _ _ ((rd_T26 l0 x5_1).f2) _ _ ((rd_T26 l0 x5_1).f3) ((rd_T26 l1 x5_1).f0) ((rd_T26 l1 x5_1).f1) _ _ ((rd_T26 l1 x5_1).f2) _ _ ((rd_T26 l1 x5_1).f3) false _ ?side1 ?side2 ?side3 ?side4 ?side5 ?side6 ?side7 ?side8 A7.out).mono ?_
        (case side1 => exact kc_ (Kd.C_below HR340_2.out HB.out))
        (case side2 => exact HC340_2.out)
        (case side3 => exact kc_ (Kd.C_below HR340_3.out HB.out))
        (case side4 => exact HC340_3.out)
        (case side5 => exact kc_ (Kd.C_below HR341_2.out HB.out))
        (case side6 => exact HC341_2.out)
        (case side7 => exact kc_ (Kd.C_below HR341_3.out HB.out))
        (case side8 => exact HC341_3.out)
        rintro e w12 ⟨rfl,hb⟩
        refine ⟨_,rfl,?_⟩
        have n0_:=am_ (below_step (bl0_ HB.out) hb)
        clear HB
        have HB:=n0_
        clear n0_
        (try clear hb)
        (try clear hb2)
        (try clear hk)
        (try clear hi)
        refine hK.out _ _ ⟨((HB.out.cell (wl_ w _ hw340_0)).trans hw340_0),((HB.out.cell (wl_ w _ hw340_1)).trans hw340_1),((HB.out.cell (wl_ w _ hw340_2)).trans hw340_2),((HB.out.cell (wl_ w _ hw340_3)).trans hw340_3),((HB.out.cell (wl_ w _ hw341_0)).trans hw341_0),((HB.out.cell (wl_ w _ hw341_1)).trans hw341_1),((HB.out.cell (wl_ w _ hw341_2)).trans hw341_2),((HB.out.cell (wl_ w _ hw341_3)).trans hw341_3)⟩ (fun hHeld => ?_)
        clear hK K
        refine norm_ (a':=?_) ?_ ?_
        rotate_left
        ·show Act.put _ (some 25) _ = _
         simp only [Act.put,List.setIfInBounds_toArray,List.set_cons_zero,List.set_cons_succ,i64_w,i32_w]
         rfl
        refine pure_ (i:=9) (N:=some 26) (v:=?_) (a':=?_) #[true,true,true,true,true,true,true,true,true,true] rfl rfl (any_of HT_.out (by kernel_rfl)) (fun _ _ _ h => h) (Or.inl ⟨by rfl,?_⟩) ?_ ?_
        rotate_left
        ·intro w'
         go_simp
         with_reducible rfl
        rotate_left
        ·simp only [Act.put,List.setIfInBounds_toArray,List.set_cons_zero,List.set_cons_succ,i64_w,i32_w]
         rfl
        refine done_ (done_of HT_.out (by kernel_rfl)) ?_
        try go_wp2
        go_ret
        exact ⟨er_,bl0_ HB.out⟩
      ·rw [if_neg c6] at H
       exact absurd H (by simp)
     ·rw [if_neg c5] at H
      exact absurd H (by simp)
    ·rw [if_neg c4] at H
     have c4b0:decide (x5_1 < (l0.length:Int)) = false:=decide_eq_false c4
     clear c4
     obtain rfl:=Option.some.inj H
     go_wp2
     go_ret
     exact ⟨er_,bl0_ HB.out⟩
 ·rw [if_neg c3] at H
  have c3b0:((l0.length:Int) == (l1.length:Int)) = false:=beq_eq_false_iff_ne.mpr c3
  have c3b1:((l0.length:Int) != (l1.length:Int)) = true:=bne_iff_ne.mpr c3
  have c3b2:(l0.length == l1.length) = false:=by first | simpa using c3 | (simp at c3 ⊢; omega)
  obtain rfl:=Option.some.inj H
  go_enter Tryz.func19,Tryz.ntmps19
  go_wp2
  go_ret
  exact ⟨er_,bl0_ HB.out⟩


def markF:List S26 → Int → List S26
  | [],_ => []
  | x :: r,a => ⟨a,a + 1,marks x.f2.length (a + 2),marks x.f3.length (a + 2 + x.f2.length)⟩ :: markF r (a + 2 + x.f2.length + x.f3.length)
def sizeF:List S26 → Int
  | [] => 0
  | x :: r => 2 + x.f2.length + x.f3.length + sizeF r
theorem markF_len:∀ (l:List S26) (a:Int),(markF l a).length = l.length
  | [],_ => rfl
  | x :: r,a => by rw [markF,List.length_cons,markF_len r,List.length_cons]
theorem sizeF_snoc:∀ (l:List S26) (x:S26),sizeF (l ++ [x]) = sizeF l + (2 + x.f2.length + x.f3.length)
  | [],x => by simp [sizeF]
  | y :: r,x => by rw [List.cons_append,sizeF,sizeF_snoc r x,sizeF]; omega
theorem markF_snoc:∀ (l:List S26) (x:S26) (a:Int),markF (l ++ [x]) a = markF l a ++ [⟨a + sizeF l,a + sizeF l + 1,marks x.f2.length (a + sizeF l + 2),marks x.f3.length (a + sizeF l + 2 + x.f2.length)⟩]
  | [],x,a => by simp [markF,sizeF]
  | y :: r,x,a => by
    rw [List.cons_append,markF,markF_snoc r x,markF,List.cons_append]
    have e:a + 2 + (y.f2.length:Int) + (y.f3.length:Int) + sizeF r = a + sizeF (y :: r):=by rw [sizeF]; omega
    rw [e]
theorem sizeF_b (B:Nat):∀ (l:List S26),(∀ x ∈ l,x.f2.length ≤ B ∧ x.f3.length ≤ B) → 0 ≤ sizeF l ∧ sizeF l ≤ l.length * (2 + 2 * (B:Int))
  | [],_ => by simp [sizeF]
  | x :: r,h => by
    have h1:=h x List.mem_cons_self
    have h2:=sizeF_b B r (fun y hy => h y (List.mem_cons_of_mem _ hy))
    rw [sizeF,List.length_cons]
    have e:((r.length + 1:Nat):Int) * (2 + 2 * (B:Int)) = (r.length:Int) * (2 + 2 * (B:Int)) + (2 + 2 * (B:Int)):=by
      rw [Int.natCast_add,Int.add_mul]; simp
    omega
def partM (R:List S26) (i:Nat):List S26:=markF (R.take i) 101 ++ R.drop i
theorem partM_len (R:List S26) (i:Nat):(partM R i).length = R.length:=by
  unfold partM; rw [List.length_append,markF_len,List.length_take,List.length_drop]; omega
theorem partM_at (R:List S26) (i:Nat) (h:i < R.length) (z:S26):(partM R i).getD i z = R[i]:=by
  unfold partM
  rw [List.getD_eq_getElem?_getD,List.getElem?_append_right (by rw [markF_len,List.length_take]; omega),markF_len,List.length_take,Nat.min_eq_left (by omega),Nat.sub_self,List.getElem?_drop,Nat.add_zero,List.getElem?_eq_getElem h]
  rfl
theorem partM_set (R:List S26) (i:Nat) (h:i < R.length):(partM R i).set i ⟨101 + sizeF (R.take i),101 + sizeF (R.take i) + 1,marks R[i].f2.length (101 + sizeF (R.take i) + 2),marks R[i].f3.length (101 + sizeF (R.take i) + 2 + R[i].f2.length)⟩ = partM R (i + 1):=by
  unfold partM
  rw [List.take_succ_eq_append_getElem h,markF_snoc,List.drop_eq_getElem_cons h,List.set_append_right _ _ (by rw [markF_len,List.length_take]; omega),markF_len,List.length_take,Nat.min_eq_left (by omega),Nat.sub_self,List.set_cons_zero,List.append_assoc]
  rfl
theorem set_at {α:Type} (l:List α) (i:Nat) (x z:α) (h:i < l.length):(l.set i x).getD i z = x:=by
  rw [List.getD_eq_getElem?_getD,List.getElem?_set_self h]; rfl
theorem S_fig {e g n cap:Nat} {W:World} {base:Nat} {ok:Nat → Prop} {xs:List S26} (h:Kd.S kF e W base ok (.slice (some ⟨g,0,none⟩) n cap) xs) (i:Nat) (hi:i < n) (x:S26) (hx:∀ z,xs.getD i z = x) :
    ∃ (oki:Nat → Prop) (v2 v3:Value),(∀ k,oki k → ok k ∧ k ≠ g) ∧ (Kd.int .i64).R 3 W base oki v2 x.f2 ∧ (Kd.int .i64).R 3 W base oki v3 x.f3 ∧ (∀ k:Nat,some k = v2.ownBlock → some k ≠ v3.ownBlock) ∧ Kd.H kF e W base ok (.slice (some ⟨g,0,none⟩) n cap) xs i oki [.int .i64 x.f0,.int .i64 x.f1,v2,v3] ∧
      W.cell? ⟨g,i * 4,none⟩ = some (.int .i64 x.f0) ∧ W.cell? ⟨g,i * 4 + 1,none⟩ = some (.int .i64 x.f1) ∧ W.cell? ⟨g,i * 4 + 2,none⟩ = some v2 ∧ W.cell? ⟨g,i * 4 + 3,none⟩ = some v3 ∧ W.frozen? ⟨g,i * 4,none⟩ = false ∧ W.frozen? ⟨g,i * 4 + 1,none⟩ = false:=by
  obtain ⟨oki,c,hcl,hM,hcc,hfr,hoki,hH⟩:=Kd.S_elem h (⟨0,0,[],[]⟩:S26) (i:Int) (by omega) (by omega)
  have e4:(kF:Kd S26).sz = 4:=rfl
  rw [Int.toNat_natCast,hx] at hM
  rw [Int.toNat_natCast,e4] at hcc hfr
  obtain ⟨v2,v3,rfl,h2,h3,hne⟩:=kF_openM hM
  exact ⟨oki,v2,v3,hoki,h2,h3,hne,hH,hcc 0 _ rfl,hcc 1 _ rfl,hcc 2 _ rfl,hcc 3 _ rfl,hfr 0,hfr 1⟩
theorem S_cell {e g n cap:Nat} {W:World} {base:Nat} {ok oki:Nat → Prop} {xs:List S26} {i:Nat} {c:List Value} (hH:Kd.H kF e W base ok (.slice (some ⟨g,0,none⟩) n cap) xs i oki c) (h1:i < n) (j:Nat) (hj:j < 4) (u:Value) (hu:u.oneCell' = true) (x':S26) (hM:kF.M W base oki x' (c.take j ++ [u] ++ c.drop (j + 1))) (hoki:∀ k,oki k → ok k ∧ k ≠ g) :
    Kd.S kF e (W.setCell ⟨g,i * 4 + j,none⟩ u) base ok (.slice (some ⟨g,0,none⟩) n cap) (xs.set i x') ∧ W.grownBy (W.setCell ⟨g,i * 4 + j,none⟩ u) (some g):=by
  obtain ⟨h2,h3⟩:=Kd.H_seg hH (by omega) (by omega) (seg:=[u]) (j:=j) (show j + 1 ≤ 4 by omega) (fun q hq => by rw [List.mem_singleton] at hq; rw [hq]; exact hu)
  have h4:=Kd.H_back h2 (x':=x') (Kd.M_step hM (fun k hk hlt => h3.block k hlt (fun he => (hoki k hk).2 (by injection he)))) (fun k hk => hk)
  rw [Int.toNat_natCast] at h4
  exact ⟨h4,h3⟩
theorem S_marked {e g n cap:Nat} {W W2:World} {base:Nat} {ok oki:Nat → Prop} {xs:List S26} {i:Nat} {c:List Value} (hH:Kd.H kF e W base ok (.slice (some ⟨g,0,none⟩) n cap) xs i oki c) (h1:i < n) (x':S26) {T:Nat → Prop} (hk:Kept W W2 T) (hT:∀ k,T k → oki k) (hM:kF.M W2 base oki x' c) :
    Kd.S kF e W2 base ok (.slice (some ⟨g,0,none⟩) n cap) (xs.set i x'):=by
  have h4:=Kd.H_back (Kd.H_kept hH hk (fun k _ hn hs => hn (hT k hs))) hM (fun k hk => hk)
  rw [Int.toNat_natCast] at h4
  exact h4
set_option maxRecDepth 100000 in
set_option maxHeartbeats 16000000 in
theorem markFigureS_any (K:Nat) (hK:1000 < K) (R:List S26) (ok:Nat → Prop) (v:Value) (w0 w:World) (hB:Below w0.heap.size w0 w) (HS0:Kd.S kF 26 w w0.heap.size ok v R) (hl:R.length ≤ 1000) (hb:∀ x ∈ R,x.f2.length ≤ 100 ∧ x.f3.length ≤ 100) :
    Calls Tryz.prog 20 #[v,.int .i64 101] w fun e w' => e = .returned (.int .i64 (101 + sizeF R)) ∧ Kd.S kF 26 w' w0.heap.size ok v (markF R 101) ∧ Below w0.heap.size w0 w' ∧ Kept w w' ok:=by
  have HS:=am_ (show Kd.S kF 26 w w0.heap.size ok v (partM R 0) from HS0)
  have hend:partM R R.length = markF R 101:=by unfold partM; rw [List.take_length,List.drop_length,List.append_nil]
  have HEND:=am_ hend
  have HBB:=am_ hb
  have HKK:=am_ (Kept.refl w ok)
  have HB:=am_ hB
  obtain ⟨A0,c0,ev⟩:=Kd.S_slice HS.out
  rw [partM_len] at ev
  subst ev
  have hz0:sizeF (R.take 0) = 0:=rfl
  clear hend hb HS0 hB
  go_enter Tryz.func20,Tryz.ntmps20
  go_wp2_with fail
  go_loopg [1,5] R.length (fun gg v1 v5 wr => ∃ i:Nat,i ≤ R.length ∧ R.length - i ≤ gg ∧ v5 = .int .i64 i ∧ v1 = .int .i64 (101 + sizeF (R.take i)) ∧ Aside0 (Kd.S kF 26 wr w0.heap.size ok (.slice A0 R.length c0) (partM R i)) ∧ Aside0 (Kept w wr ok) ∧ Aside0 (Below w0.heap.size w0 wr))
  case atStart => exact ⟨0,Nat.zero_le _,by omega,rfl,by rw [hz0]; rfl,HS,HKK,HB⟩
  case round =>
    clear HS HKK HB hz0
    obtain ⟨i,hi,hgg,rfl,rfl,HS,HKK,HB⟩:=hrel
    by_cases hlt:i < R.length
    · have hltz:(i:Int) < (R.length:Int):=by omega
      have hsz:=sizeF_b 100 (R.take i) (fun x hx => HBB.out x (List.mem_of_mem_take hx))
      rw [List.length_take,Nat.min_eq_left hi] at hsz
      have hxb:=HBB.out _ (List.getElem_mem hlt)
      have HAT:=am_ (partM_at R i hlt)
      have HST:=am_ (partM_set R i hlt)
      have HXL:=am_ (partM_len R i)
      have HSN:Aside0 (101 + sizeF (R.take (i + 1)) = 101 + sizeF (R.take i) + 1 + 1 + (R[i].f2.length:Int) + (R[i].f3.length:Int)):=⟨by rw [List.take_succ_eq_append_getElem hlt,sizeF_snoc]; omega⟩
      have ha0:(0:Int) ≤ 101 + sizeF (R.take i):=by omega
      have ha1:101 + sizeF (R.take i) ≤ 1000000:=by omega
      have M2:=am_ (markIntS_f R[i].f2 (101 + sizeF (R.take i) + 1 + 1) (by omega) (by omega) K (by omega))
      have M3:=am_ (markIntS_f R[i].f3 (101 + sizeF (R.take i) + 1 + 1 + R[i].f2.length) (by omega) (by omega) K (by omega))
      have e11:101 + sizeF (R.take i) + 2 = 101 + sizeF (R.take i) + 1 + 1:=by omega
      rw [e11] at HST
      clear e11 hsz
      generalize 101 + sizeF (R.take i) = a at ha0 ha1 M2 M3 HST HSN ⊢
      generalize partM R i = xs at HS HAT HST HXL
      generalize R[i] = x at HAT HST HSN M2 M3 hxb
      obtain ⟨x0,x1,x2,x3⟩:=x
      have hp1:(0:Int) ≤ a + 1 + 1:=by omega
      have hp2:a + 1 + 1 ≤ 2000000:=by omega
      generalize hb2:a + 1 + 1 + (x2.length:Int) = b2 at M2 M3 HST HSN
      have hq1:(0:Int) ≤ b2:=by simp at hxb; omega
      have hq2:b2 ≤ 3000000:=by simp at hxb; omega
      clear hb2
      obtain ⟨g,cp,eA,hgb,hgl,hgc⟩:=Kd.S_form HS.out (by rw [HXL.out]; omega)
      injection eA with eA1 eA2 eA3
      clear eA2
      subst eA1 eA3
      have HGB:=am_ hgb
      clear hgb hgl hgc
      have hlx:i < xs.length:=by rw [HXL.out]; exact hlt
      have HLX:=am_ hlx
      obtain ⟨oki,v2,v3,hoki,h2,h3,hne,hH,hc0,hc1,hc2,hc3,hf0,hf1⟩:=S_fig HS.out i hlt _ HAT.out
      have S1:=am_ (S_cell hH hlt 0 (by omega) (.int .i64 a) rfl ⟨a,x1,x2,x3⟩ (kF_mkM _ _ _ (⟨a,x1,x2,x3⟩:S26) h2 h3 hne) hoki)
      clear hoki h2 h3 hne hH hlx hxb hc2 hc3
      have HOG:=am_ ((Kd.S_R HS.out).1 g (by simp [Value.ownBlock]))
      go_wp2_with (first
        | ((with_reducible refine gate_store (t:=3) (p:=16) rfl ?_); refine store_event (t:=3) (p:=16) (v:=?vo) (w1:=wr.setCell ⟨g,i * 4 + 0,none⟩ (.int .i64 a)) ?hg ?ho ?hn ?hr ?_; (case ho => rfl); (case hg => rfl); (case hn => rfl); (case hr => first | (go_simp; done) | (go_simp; rfl))
           intro w8 hw
           have hg:wr.grownBy w8 (some g):=by rw [hw]; exact S1.out.2
           have HSa:Aside0 (Kd.S kF 26 w8 w0.heap.size ok (.slice (some ⟨g,0,none⟩) R.length c0) (xs.set i ⟨a,x1,x2,x3⟩)):=⟨by rw [hw]; exact S1.out.1⟩
           have HKa:=am_ (Kept.of_grown hg HKK.out (fun k e => .inl (by cases e; exact HOG.out)))
           have HBa:Aside0 (Below w0.heap.size w0 w8):=⟨by rw [hw]; exact below_set HB.out HGB.out⟩
           clear S1 HS HKK HB hc0 hc1 hf0 hf1 hg hw
           obtain ⟨oki,v2,v3,hoki,h2,h3,hne,hH,hc0,hc1,hc2,hc3,hf0,hf1⟩:=S_fig HSa.out i hlt ⟨a,x1,x2,x3⟩ (fun z => set_at _ _ _ _ HLX.out)
           have S2:=am_ (S_cell hH hlt 1 (by omega) (.int .i64 (a + 1)) rfl ⟨a,a + 1,x2,x3⟩ (kF_mkM _ _ _ (⟨a,a + 1,x2,x3⟩:S26) h2 h3 hne) hoki)
           clear hoki h2 h3 hne hH hc2 hc3)
        | ((with_reducible refine gate_store (t:=3) (p:=23) rfl ?_); refine store_event (t:=3) (p:=23) (v:=?vp) (w1:=w8.setCell ⟨g,i * 4 + 1,none⟩ (.int .i64 (a + 1))) ?hg ?ho ?hn ?hr ?_; (case ho => rfl); (case hg => rfl); (case hn => rfl); (case hr => first | (go_simp; done) | (go_simp; rfl))
           intro w9 hw
           have hg:w8.grownBy w9 (some g):=by rw [hw]; exact S2.out.2
           have HSb:Aside0 (Kd.S kF 26 w9 w0.heap.size ok (.slice (some ⟨g,0,none⟩) R.length c0) (xs.set i ⟨a,a + 1,x2,x3⟩)):=⟨by rw [hw]; have h:=S2.out.1; rw [List.set_set] at h; exact h⟩
           have HKb:=am_ (Kept.of_grown hg HKa.out (fun k e => .inl (by cases e; exact HOG.out)))
           have HBb:Aside0 (Below w0.heap.size w0 w9):=⟨by rw [hw]; exact below_set HBa.out HGB.out⟩
           clear S2 HSa HKa HBa hc0 hc1 hf0 hf1 hg hw
           obtain ⟨oki,v2,v3,hoki,h2,h3,hne,hH,hc0,hc1,hc2,hc3,hf0,hf1⟩:=S_fig HSb.out i hlt ⟨a,a + 1,x2,x3⟩ (fun z => set_at _ _ _ _ HLX.out)
           have Hoki:=am_ hoki
           have H2:=am_ h2
           have H3:=am_ h3
           have HNE:=am_ hne
           have HH:=am_ hH
           clear hoki h2 h3 hne hH hc0 hc1 hc3 hf0 hf1)
        | (go_at_call 30; (with_reducible refine (laws_markIntS.calls K (fun k => some k = (v2:Value).ownBlock) v2 x2 (a + 1 + 1) b2 (marks x2.length (a + 1 + 1)) w0 _ HBb.out (Kd.R_tight rfl H2.out) M2.out).mono ?_)
           rintro e w10 ⟨rfl,hm,hb,hk⟩
           have h3:=(show Kd.R (Kd.int .i64) 3 w10 w0.heap.size oki v3 x3 from Kd.R_reok rfl (Kd.R_kept (Kd.R_tight rfl H3.out) hk (fun k h1 h2 => HNE.out k h2 h1)) (fun k e => H3.out.1 k e))
           have hm2:=(show Kd.R (Kd.int .i64) 3 w10 w0.heap.size oki v2 (marks x2.length (a + 1 + 1)) from Kd.R_reok rfl hm (fun k e => H2.out.1 k e))
           have HSc:Aside0 (Kd.S kF 26 w10 w0.heap.size ok (.slice (some ⟨g,0,none⟩) R.length c0) (xs.set i ⟨a,a + 1,marks x2.length (a + 1 + 1),x3⟩)):=⟨by
             have h:=S_marked HH.out hlt ⟨a,a + 1,marks x2.length (a + 1 + 1),x3⟩ hk (fun k e => H2.out.1 k e.symm) (kF_mkM _ _ _ (⟨a,a + 1,marks x2.length (a + 1 + 1),x3⟩:S26) hm2 h3 HNE.out)
             rw [List.set_set] at h
             exact h⟩
           have HKc:=am_ (Kept.then_ HKb.out hk (fun k e => .inl (Hoki.out k (H2.out.1 k e.symm)).1))
           have HBc:=am_ hb
           clear hm hm2 hb hk h3 hc2 HSb HKb HBb H2 H3 HNE HH Hoki M2
           obtain ⟨okj,u2,u3,hoki,h2,h3,hne,hH,hc0,hc1,hc2,hc3,hf0,hf1⟩:=S_fig HSc.out i hlt ⟨a,a + 1,marks x2.length (a + 1 + 1),x3⟩ (fun z => set_at _ _ _ _ HLX.out)
           have Hokj:=am_ hoki
           have H2:=am_ h2
           have H3:=am_ h3
           have HNE:=am_ hne
           have HH:=am_ hH
           clear hoki h2 h3 hne hH hc0 hc1 hc2 hf0 hf1)
        | (go_at_call 30; (with_reducible refine (laws_markIntS.calls K (fun k => some k = (u3:Value).ownBlock) u3 x3 b2 (b2 + x3.length) (marks x3.length b2) w0 _ HBc.out (Kd.R_tight rfl H3.out) M3.out).mono ?_)
           rintro e w11 ⟨rfl,hm,hb,hk⟩
           have h2:=(show Kd.R (Kd.int .i64) 3 w11 w0.heap.size okj u2 (marks x2.length (a + 1 + 1)) from Kd.R_reok rfl (Kd.R_kept (Kd.R_tight rfl H2.out) hk (fun k h1 h2 => HNE.out k h1 h2)) (fun k e => H2.out.1 k e))
           have hm3:=(show Kd.R (Kd.int .i64) 3 w11 w0.heap.size okj u3 (marks x3.length b2) from Kd.R_reok rfl hm (fun k e => H3.out.1 k e))
           have HSd:Aside0 (Kd.S kF 26 w11 w0.heap.size ok (.slice (some ⟨g,0,none⟩) R.length c0) (xs.set i ⟨a,a + 1,marks x2.length (a + 1 + 1),marks x3.length b2⟩)):=⟨by
             have h:=S_marked HH.out hlt ⟨a,a + 1,marks x2.length (a + 1 + 1),marks x3.length b2⟩ hk (fun k e => H3.out.1 k e.symm) (kF_mkM _ _ _ (⟨a,a + 1,marks x2.length (a + 1 + 1),marks x3.length b2⟩:S26) h2 hm3 HNE.out)
             rw [List.set_set] at h
             exact h⟩
           have HKd:=am_ (Kept.then_ HKc.out hk (fun k e => .inl (Hokj.out k (H3.out.1 k e.symm)).1))
           have HBd:=am_ hb
           clear hm hm3 hb hk h2 hc3 HSc HKc HBc H2 H3 HNE HH Hokj M3))
      rw [HST.out] at HSd
      go_roundg (R.length - (i + 1))
      case measure => omega
      case rel => exact ⟨i + 1,by omega,by omega,by go_num,by rw [HSN.out],HSd,HKd,HBd⟩
    · have hltz:¬ (i:Int) < (R.length:Int):=by omega
      obtain rfl:i = R.length:=by omega
      rw [List.take_length]
      rw [HEND.out] at HS
      go_wp2_with fail
      go_ret
      exact ⟨rfl,HS.out,HB.out,HKK.out⟩


def laws_heldFigureS.l0:Nat → List (S26) → Int → Int → Option (Int)
 | 0,_,_,_ => none
 | k + 1,x0,x1,x5 => if x5 < (x0.length:Int) then (if 0 ≤ x5 then (if ((rd_T26 x0 x5).f0) = x1 then (if ((rd_T26 x0 x5).f1) = (wrap64 (x1 + 1)) then ((laws_heldIntS.f k ((rd_T26 x0 x5).f2) (wrap64 ((wrap64 (x1 + 1)) + 1))).bind fun t346 => (if t346 < 0 then (some (-1)) else ((laws_heldIntS.f k ((rd_T26 x0 x5).f3) t346).bind fun t348 => (if t348 < 0 then (some (-1)) else (laws_heldFigureS.l0 k x0 t348 (wrap64 (x5 + 1))))))) else (some (-1))) else (some (-1))) else (none)) else (some x1)
def laws_heldFigureS.f (k:Nat) (l0:List (S26)) (a1:Int):Option (Int):=laws_heldFigureS.l0 k l0 a1 0
theorem laws_heldFigureS.mono_l:∀ k,(∀ y0 y1 y2,LeO (laws_heldFigureS.l0 k y0 y1 y2) (laws_heldFigureS.l0 (k + 1) y0 y1 y2))
 | 0 => fun _ _ _ r h => by simp [laws_heldFigureS.l0] at h
 | k + 1 => by
  have ih0:=laws_heldFigureS.mono_l k
  ·intro y0 y1 y2
   unfold laws_heldFigureS.l0
   repeat' first | (with_reducible first | exact ih0 _ _ _ | exact laws_heldIntS.mono _ _ _ | exact LeO.refl _ | exact LeO.none _ | refine LeO.ite ?_ ?_ | refine LeO.bind ?_ (fun _ => ?_)) | exact ih0 _ _ _ | exact laws_heldIntS.mono _ _ _
theorem laws_heldFigureS.mono:∀ a0 a1 k,LeO (laws_heldFigureS.f k a0 a1) (laws_heldFigureS.f (k + 1) a0 a1):=by
 intro a0 a1 k
 have ih0:=laws_heldFigureS.mono_l k
 unfold laws_heldFigureS.f
 repeat' first | (with_reducible first | exact ih0 _ _ _ | exact laws_heldIntS.mono _ _ _ | exact LeO.refl _ | exact LeO.none _ | refine LeO.ite ?_ ?_ | refine LeO.bind ?_ (fun _ => ?_)) | exact ih0 _ _ _ | exact laws_heldIntS.mono _ _ _
set_option maxHeartbeats 8000000 in
set_option maxRecDepth 100000 in
theorem laws_heldFigureS.calls (k:Nat) (A0:Option Addr) (c0:Nat) (l0:List (S26)) (a1:Int) (r:Int) (w:World) (hr0:Kd.C k26 w A0 l0.length l0) (hc0:l0.length ≤ c0) (h:laws_heldFigureS.f k l0 a1 = some r) :
  Calls Tryz.prog 21 #[.slice A0 l0.length c0,.int .i64 a1] w fun e w' => e = .returned (.int .i64 r) ∧ Drawn0 w w':=by
 have HR0:=am_ hr0
 have HC0:=am_ hc0
 clear hr0 hc0
 have H:(laws_heldFigureS.l0 k l0 a1 0) = some r:=h
 clear h
 have H':=am_ H
 clear H
 go_enter Tryz.func21,Tryz.ntmps21
 go_wp2
 go_loopg [1,5] k (fun kq v1 v5 w' => ∃ (x1_1:Int) (x5_1:Int),v1 = .int .i64 x1_1 ∧ v5 = .int .i64 x5_1 ∧ Aside0 (laws_heldFigureS.l0 kq l0 x1_1 x5_1 = some r) ∧ Aside0 (kq ≤ k) ∧ Drawn0 w w')
 case atStart => exact ⟨(a1),(0),rs_,rs_,H',⟨Nat.le_refl _⟩,by repeat (first | exact Drawn0.refl _ | apply Drawn0.step)⟩
 case round =>
  clear H'
  try clear c2
  try clear p2
  obtain ⟨x1_1,x5_1,rfl,rfl,HA,HK1,⟨m1,rfl⟩⟩:=hrel
  cases gk with
  | zero => exact absurd HA.out (by simp [laws_heldFigureS.l0])
  | succ k1 =>
   have H:=HA.out
   clear HA
   simp only [laws_heldFigureS.l0] at H
   by_cases c3:x5_1 < (l0.length:Int)
   ·rw [if_pos c3] at H
    have c3b0:decide (x5_1 < (l0.length:Int)) = true:=decide_eq_true c3
    clear c3
    by_cases c4:0 ≤ x5_1
    ·rw [if_pos c4] at H
     have c4b0:decide (0 ≤ x5_1) = true:=decide_eq_true c4
     clear c4
     by_cases c5:((rd_T26 l0 x5_1).f0) = x1_1
     ·rw [if_pos c5] at H
      have c5b0:(((rd_T26 l0 x5_1).f0) == x1_1) = true:=beq_iff_eq.mpr c5
      have c5b1:(((rd_T26 l0 x5_1).f0) != x1_1) = false:=bne_eq_false_iff_eq.mpr c5
      clear c5
      by_cases c6:((rd_T26 l0 x5_1).f1) = (wrap64 (x1_1 + 1))
      ·rw [if_pos c6] at H
       have c6b0:(((rd_T26 l0 x5_1).f1) == (wrap64 (x1_1 + 1))) = true:=beq_iff_eq.mpr c6
       have c6b1:(((rd_T26 l0 x5_1).f1) != (wrap64 (x1_1 + 1))) = false:=bne_eq_false_iff_eq.mpr c6
       clear c6
       replace H:=bi_ H
       obtain ⟨t346,A70,H⟩:=H
       replace H:(if t346 < 0 then (some (-1)) else ((laws_heldIntS.f k1 ((rd_T26 l0 x5_1).f3) t346).bind fun t348 => (if t348 < 0 then (some (-1)) else (laws_heldFigureS.l0 k1 l0 t348 (wrap64 (x5_1 + 1)))))) = some r:=H
       have A7:=am_ A70
       clear A70
       by_cases c8:t346 < 0
       ·rw [if_pos c8] at H
        have c8b0:decide (t346 < 0) = true:=decide_eq_true c8
        clear c8
        obtain rfl:=Option.some.inj H
        have p343:0 ≤ (x5_1:Int):=of_decide_eq_true as_
        have q343:x5_1 < (l0.length:Int):=of_decide_eq_true as_
        obtain ⟨ad343,A343_2,c343_2,A343_3,c343_3,e343,hx343_0,hx343_1,hx343_2,hx343_3,hl343_2,hi343_2,hl343_3,hi343_3⟩:=at_T26 HR0.out x5_1 p343 q343
        cases e343
        have HR343_2:=am_ hi343_2
        have HC343_2:=am_ hl343_2
        clear hi343_2 hl343_2
        have HR343_3:=am_ hi343_3
        have HC343_3:=am_ hl343_3
        clear hi343_3 hl343_3
        replace p343:=eq_true p343
        replace q343:=eq_true q343
        have p344:0 ≤ (x5_1:Int):=of_decide_eq_true as_
        have q344:x5_1 < (l0.length:Int):=of_decide_eq_true as_
        obtain ⟨ad344,A344_2,c344_2,A344_3,c344_3,e344,hx344_0,hx344_1,hx344_2,hx344_3,hl344_2,hi344_2,hl344_3,hi344_3⟩:=at_T26 HR0.out x5_1 p344 q344
        obtain rfl:ad343 = ad344:=(by injection e344)
        have HR344_2:=am_ hi344_2
        have HC344_2:=am_ hl344_2
        clear hi344_2 hl344_2
        have HR344_3:=am_ hi344_3
        have HC344_3:=am_ hl344_3
        clear hi344_3 hl344_3
        replace p344:=eq_true p344
        replace q344:=eq_true q344
        have ea_:=Option.some.inj (hx343_2.symm.trans hx344_2)
        injection ea_ with ea_ en_ ec_
        subst ea_
        subst ec_
        clear en_
        have ea_:=Option.some.inj (hx343_3.symm.trans hx344_3)
        injection ea_ with ea_ en_ ec_
        subst ea_
        subst ec_
        clear en_
        have p345:0 ≤ (x5_1:Int):=of_decide_eq_true as_
        have q345:x5_1 < (l0.length:Int):=of_decide_eq_true as_
        obtain ⟨ad345,A345_2,c345_2,A345_3,c345_3,e345,hx345_0,hx345_1,hx345_2,hx345_3,hl345_2,hi345_2,hl345_3,hi345_3⟩:=at_T26 HR0.out x5_1 p345 q345
        obtain rfl:ad343 = ad345:=(by injection e345)
        have HR345_2:=am_ hi345_2
        have HC345_2:=am_ hl345_2
        clear hi345_2 hl345_2
        have HR345_3:=am_ hi345_3
        have HC345_3:=am_ hl345_3
        clear hi345_3 hl345_3
        replace p345:=eq_true p345
        replace q345:=eq_true q345
        have ea_:=Option.some.inj (hx343_2.symm.trans hx345_2)
        injection ea_ with ea_ en_ ec_
        subst ea_
        subst ec_
        clear en_
        have ea_:=Option.some.inj (hx343_3.symm.trans hx345_3)
        injection ea_ with ea_ en_ ec_
        subst ea_
        subst ec_
        clear en_
        go_wp2_with (first | ((with_reducible refine gate_callee (f:=31) rfl ?_); refine goesL_ (some 36) rfl rfl Tryz.func31 (by kernel_rfl) rfl #[.slice A343_2 ((rd_T26 l0 x5_1).f2).length c343_2,.int .i64 (wrap64 ((wrap64 (x1_1 + 1)) + 1))] rfl ob_ ?_; (with_reducible refine (laws_heldIntS.calls k1 _ _ ((rd_T26 l0 x5_1).f2) (wrap64 ((wrap64 (x1_1 + 1)) + 1)) t346 _ ?side1 ?side2 A7.out).mono ?_); (case side1 => repeat (first | exact HR345_2.out | (with_reducible refine Kd.C_alloc ?_ _) | (with_reducible refine Kd.C_drewN ?_ _) | (with_reducible refine Kd.C_drew ?_))); (case side2 => exact HC345_2.out); rintro e w' ⟨rfl,⟨nd,rfl⟩⟩; refine ⟨_,rfl,?_⟩))
        go_ret
        exact ⟨by first | rfl | (simp; done) | (simp [*]; done),by repeat (first | exact Drawn0.refl _ | apply Drawn0.step)⟩
       ·rw [if_neg c8] at H
        have c8b0:decide (t346 < 0) = false:=decide_eq_false c8
        clear c8
        replace H:=bi_ H
        obtain ⟨t348,A90,H⟩:=H
        replace H:(if t348 < 0 then (some (-1)) else (laws_heldFigureS.l0 k1 l0 t348 (wrap64 (x5_1 + 1)))) = some r:=H
        have A9:=am_ A90
        clear A90
        by_cases c10:t348 < 0
        ·rw [if_pos c10] at H
         have c10b0:decide (t348 < 0) = true:=decide_eq_true c10
         clear c10
         obtain rfl:=Option.some.inj H
         have p343:0 ≤ (x5_1:Int):=of_decide_eq_true as_
         have q343:x5_1 < (l0.length:Int):=of_decide_eq_true as_
         obtain ⟨ad343,A343_2,c343_2,A343_3,c343_3,e343,hx343_0,hx343_1,hx343_2,hx343_3,hl343_2,hi343_2,hl343_3,hi343_3⟩:=at_T26 HR0.out x5_1 p343 q343
         cases e343
         have HR343_2:=am_ hi343_2
         have HC343_2:=am_ hl343_2
         clear hi343_2 hl343_2
         have HR343_3:=am_ hi343_3
         have HC343_3:=am_ hl343_3
         clear hi343_3 hl343_3
         replace p343:=eq_true p343
         replace q343:=eq_true q343
         have p344:0 ≤ (x5_1:Int):=of_decide_eq_true as_
         have q344:x5_1 < (l0.length:Int):=of_decide_eq_true as_
         obtain ⟨ad344,A344_2,c344_2,A344_3,c344_3,e344,hx344_0,hx344_1,hx344_2,hx344_3,hl344_2,hi344_2,hl344_3,hi344_3⟩:=at_T26 HR0.out x5_1 p344 q344
         obtain rfl:ad343 = ad344:=(by injection e344)
         have HR344_2:=am_ hi344_2
         have HC344_2:=am_ hl344_2
         clear hi344_2 hl344_2
         have HR344_3:=am_ hi344_3
         have HC344_3:=am_ hl344_3
         clear hi344_3 hl344_3
         replace p344:=eq_true p344
         replace q344:=eq_true q344
         have ea_:=Option.some.inj (hx343_2.symm.trans hx344_2)
         injection ea_ with ea_ en_ ec_
         subst ea_
         subst ec_
         clear en_
         have ea_:=Option.some.inj (hx343_3.symm.trans hx344_3)
         injection ea_ with ea_ en_ ec_
         subst ea_
         subst ec_
         clear en_
         have p345:0 ≤ (x5_1:Int):=of_decide_eq_true as_
         have q345:x5_1 < (l0.length:Int):=of_decide_eq_true as_
         obtain ⟨ad345,A345_2,c345_2,A345_3,c345_3,e345,hx345_0,hx345_1,hx345_2,hx345_3,hl345_2,hi345_2,hl345_3,hi345_3⟩:=at_T26 HR0.out x5_1 p345 q345
         obtain rfl:ad343 = ad345:=(by injection e345)
         have HR345_2:=am_ hi345_2
         have HC345_2:=am_ hl345_2
         clear hi345_2 hl345_2
         have HR345_3:=am_ hi345_3
         have HC345_3:=am_ hl345_3
         clear hi345_3 hl345_3
         replace p345:=eq_true p345
         replace q345:=eq_true q345
         have ea_:=Option.some.inj (hx343_2.symm.trans hx345_2)
         injection ea_ with ea_ en_ ec_
         subst ea_
         subst ec_
         clear en_
         have ea_:=Option.some.inj (hx343_3.symm.trans hx345_3)
         injection ea_ with ea_ en_ ec_
         subst ea_
         subst ec_
         clear en_
         go_wp2_with (first | ((with_reducible refine gate_callee (f:=31) rfl ?_); refine goesL_ (some 36) rfl rfl Tryz.func31 (by kernel_rfl) rfl #[.slice A343_2 ((rd_T26 l0 x5_1).f2).length c343_2,.int .i64 (wrap64 ((wrap64 (x1_1 + 1)) + 1))] rfl ob_ ?_; (with_reducible refine (laws_heldIntS.calls k1 _ _ ((rd_T26 l0 x5_1).f2) (wrap64 ((wrap64 (x1_1 + 1)) + 1)) t346 _ ?side1 ?side2 A7.out).mono ?_); (case side1 => repeat (first | exact HR345_2.out | (with_reducible refine Kd.C_alloc ?_ _) | (with_reducible refine Kd.C_drewN ?_ _) | (with_reducible refine Kd.C_drew ?_))); (case side2 => exact HC345_2.out); rintro e w' ⟨rfl,⟨nd,rfl⟩⟩; refine ⟨_,rfl,?_⟩; have p347:0 ≤ (x5_1:Int):=of_decide_eq_true as_; have q347:x5_1 < (l0.length:Int):=of_decide_eq_true as_; obtain ⟨ad347,A347_2,c347_2,A347_3,c347_3,e347,hx347_0,hx347_1,hx347_2,hx347_3,hl347_2,hi347_2,hl347_3,hi347_3⟩:=at_T26 HR0.out x5_1 p347 q347; obtain rfl:ad343 = ad347:=(by injection e347); have HR347_2:=am_ hi347_2; have HC347_2:=am_ hl347_2; clear hi347_2 hl347_2; have HR347_3:=am_ hi347_3; have HC347_3:=am_ hl347_3; clear hi347_3 hl347_3; replace p347:=eq_true p347; replace q347:=eq_true q347; have ea_:=Option.some.inj (hx343_2.symm.trans hx347_2); injection ea_ with ea_ en_ ec_; subst ea_; subst ec_; clear en_; have ea_:=Option.some.inj (hx343_3.symm.trans hx347_3); injection ea_ with ea_ en_ ec_; subst ea_; subst ec_; clear en_) | ((with_reducible refine gate_callee (f:=31) rfl ?_); refine goesL_ (some 45) rfl rfl Tryz.func31 (by kernel_rfl) rfl #[.slice A343_3 ((rd_T26 l0 x5_1).f3).length c343_3,.int .i64 t346] rfl ob_ ?_; (with_reducible refine (laws_heldIntS.calls k1 _ _ ((rd_T26 l0 x5_1).f3) t346 t348 _ ?side1 ?side2 A9.out).mono ?_); (case side1 => repeat (first | exact HR347_3.out | (with_reducible refine Kd.C_alloc ?_ _) | (with_reducible refine Kd.C_drewN ?_ _) | (with_reducible refine Kd.C_drew ?_))); (case side2 => exact HC347_3.out); rintro e w' ⟨rfl,⟨nd,rfl⟩⟩; refine ⟨_,rfl,?_⟩))
         go_ret
         exact ⟨by first | rfl | (simp; done) | (simp [*]; done),by repeat (first | exact Drawn0.refl _ | apply Drawn0.step)⟩
        ·rw [if_neg c10] at H
         have c10b0:decide (t348 < 0) = false:=decide_eq_false c10
         clear c10
         have H':=am_ H
         clear H
         have p343:0 ≤ (x5_1:Int):=of_decide_eq_true as_
         have q343:x5_1 < (l0.length:Int):=of_decide_eq_true as_
         obtain ⟨ad343,A343_2,c343_2,A343_3,c343_3,e343,hx343_0,hx343_1,hx343_2,hx343_3,hl343_2,hi343_2,hl343_3,hi343_3⟩:=at_T26 HR0.out x5_1 p343 q343
         cases e343
         have HR343_2:=am_ hi343_2
         have HC343_2:=am_ hl343_2
         clear hi343_2 hl343_2
         have HR343_3:=am_ hi343_3
         have HC343_3:=am_ hl343_3
         clear hi343_3 hl343_3
         replace p343:=eq_true p343
         replace q343:=eq_true q343
         have p344:0 ≤ (x5_1:Int):=of_decide_eq_true as_
         have q344:x5_1 < (l0.length:Int):=of_decide_eq_true as_
         obtain ⟨ad344,A344_2,c344_2,A344_3,c344_3,e344,hx344_0,hx344_1,hx344_2,hx344_3,hl344_2,hi344_2,hl344_3,hi344_3⟩:=at_T26 HR0.out x5_1 p344 q344
         obtain rfl:ad343 = ad344:=(by injection e344)
         have HR344_2:=am_ hi344_2
         have HC344_2:=am_ hl344_2
         clear hi344_2 hl344_2
         have HR344_3:=am_ hi344_3
         have HC344_3:=am_ hl344_3
         clear hi344_3 hl344_3
         replace p344:=eq_true p344
         replace q344:=eq_true q344
         have ea_:=Option.some.inj (hx343_2.symm.trans hx344_2)
         injection ea_ with ea_ en_ ec_
         subst ea_
         subst ec_
         clear en_
         have ea_:=Option.some.inj (hx343_3.symm.trans hx344_3)
         injection ea_ with ea_ en_ ec_
         subst ea_
         subst ec_
         clear en_
         have p345:0 ≤ (x5_1:Int):=of_decide_eq_true as_
         have q345:x5_1 < (l0.length:Int):=of_decide_eq_true as_
         obtain ⟨ad345,A345_2,c345_2,A345_3,c345_3,e345,hx345_0,hx345_1,hx345_2,hx345_3,hl345_2,hi345_2,hl345_3,hi345_3⟩:=at_T26 HR0.out x5_1 p345 q345
         obtain rfl:ad343 = ad345:=(by injection e345)
         have HR345_2:=am_ hi345_2
         have HC345_2:=am_ hl345_2
         clear hi345_2 hl345_2
         have HR345_3:=am_ hi345_3
         have HC345_3:=am_ hl345_3
         clear hi345_3 hl345_3
         replace p345:=eq_true p345
         replace q345:=eq_true q345
         have ea_:=Option.some.inj (hx343_2.symm.trans hx345_2)
         injection ea_ with ea_ en_ ec_
         subst ea_
         subst ec_
         clear en_
         have ea_:=Option.some.inj (hx343_3.symm.trans hx345_3)
         injection ea_ with ea_ en_ ec_
         subst ea_
         subst ec_
         clear en_
         go_wp2_with (first | ((with_reducible refine gate_callee (f:=31) rfl ?_); refine goesL_ (some 36) rfl rfl Tryz.func31 (by kernel_rfl) rfl #[.slice A343_2 ((rd_T26 l0 x5_1).f2).length c343_2,.int .i64 (wrap64 ((wrap64 (x1_1 + 1)) + 1))] rfl ob_ ?_; (with_reducible refine (laws_heldIntS.calls k1 _ _ ((rd_T26 l0 x5_1).f2) (wrap64 ((wrap64 (x1_1 + 1)) + 1)) t346 _ ?side1 ?side2 A7.out).mono ?_); (case side1 => repeat (first | exact HR345_2.out | (with_reducible refine Kd.C_alloc ?_ _) | (with_reducible refine Kd.C_drewN ?_ _) | (with_reducible refine Kd.C_drew ?_))); (case side2 => exact HC345_2.out); rintro e w' ⟨rfl,⟨nd,rfl⟩⟩; refine ⟨_,rfl,?_⟩; have p347:0 ≤ (x5_1:Int):=of_decide_eq_true as_; have q347:x5_1 < (l0.length:Int):=of_decide_eq_true as_; obtain ⟨ad347,A347_2,c347_2,A347_3,c347_3,e347,hx347_0,hx347_1,hx347_2,hx347_3,hl347_2,hi347_2,hl347_3,hi347_3⟩:=at_T26 HR0.out x5_1 p347 q347; obtain rfl:ad343 = ad347:=(by injection e347); have HR347_2:=am_ hi347_2; have HC347_2:=am_ hl347_2; clear hi347_2 hl347_2; have HR347_3:=am_ hi347_3; have HC347_3:=am_ hl347_3; clear hi347_3 hl347_3; replace p347:=eq_true p347; replace q347:=eq_true q347; have ea_:=Option.some.inj (hx343_2.symm.trans hx347_2); injection ea_ with ea_ en_ ec_; subst ea_; subst ec_; clear en_; have ea_:=Option.some.inj (hx343_3.symm.trans hx347_3); injection ea_ with ea_ en_ ec_; subst ea_; subst ec_; clear en_) | ((with_reducible refine gate_callee (f:=31) rfl ?_); refine goesL_ (some 45) rfl rfl Tryz.func31 (by kernel_rfl) rfl #[.slice A343_3 ((rd_T26 l0 x5_1).f3).length c343_3,.int .i64 t346] rfl ob_ ?_; (with_reducible refine (laws_heldIntS.calls k1 _ _ ((rd_T26 l0 x5_1).f3) t346 t348 _ ?side1 ?side2 A9.out).mono ?_); (case side1 => repeat (first | exact HR347_3.out | (with_reducible refine Kd.C_alloc ?_ _) | (with_reducible refine Kd.C_drewN ?_ _) | (with_reducible refine Kd.C_drew ?_))); (case side2 => exact HC347_3.out); rintro e w' ⟨rfl,⟨nd,rfl⟩⟩; refine ⟨_,rfl,?_⟩))
         go_roundg k1
         case measure => have:=HK1.out; omega
         case rel => exact ⟨(t348),(wrap64 (x5_1 + 1)),rs_,rs_,H',⟨by have:=HK1.out; omega⟩,by repeat (first | exact Drawn0.refl _ | apply Drawn0.step)⟩
      ·rw [if_neg c6] at H
       have c6b0:(((rd_T26 l0 x5_1).f1) == (wrap64 (x1_1 + 1))) = false:=beq_eq_false_iff_ne.mpr c6
       have c6b1:(((rd_T26 l0 x5_1).f1) != (wrap64 (x1_1 + 1))) = true:=bne_iff_ne.mpr c6
       obtain rfl:=Option.some.inj H
       have p343:0 ≤ (x5_1:Int):=of_decide_eq_true as_
       have q343:x5_1 < (l0.length:Int):=of_decide_eq_true as_
       obtain ⟨ad343,A343_2,c343_2,A343_3,c343_3,e343,hx343_0,hx343_1,hx343_2,hx343_3,hl343_2,hi343_2,hl343_3,hi343_3⟩:=at_T26 HR0.out x5_1 p343 q343
       cases e343
       have HR343_2:=am_ hi343_2
       have HC343_2:=am_ hl343_2
       clear hi343_2 hl343_2
       have HR343_3:=am_ hi343_3
       have HC343_3:=am_ hl343_3
       clear hi343_3 hl343_3
       replace p343:=eq_true p343
       replace q343:=eq_true q343
       have p344:0 ≤ (x5_1:Int):=of_decide_eq_true as_
       have q344:x5_1 < (l0.length:Int):=of_decide_eq_true as_
       obtain ⟨ad344,A344_2,c344_2,A344_3,c344_3,e344,hx344_0,hx344_1,hx344_2,hx344_3,hl344_2,hi344_2,hl344_3,hi344_3⟩:=at_T26 HR0.out x5_1 p344 q344
       obtain rfl:ad343 = ad344:=(by injection e344)
       have HR344_2:=am_ hi344_2
       have HC344_2:=am_ hl344_2
       clear hi344_2 hl344_2
       have HR344_3:=am_ hi344_3
       have HC344_3:=am_ hl344_3
       clear hi344_3 hl344_3
       replace p344:=eq_true p344
       replace q344:=eq_true q344
       have ea_:=Option.some.inj (hx343_2.symm.trans hx344_2)
       injection ea_ with ea_ en_ ec_
       subst ea_
       subst ec_
       clear en_
       have ea_:=Option.some.inj (hx343_3.symm.trans hx344_3)
       injection ea_ with ea_ en_ ec_
       subst ea_
       subst ec_
       clear en_
       go_wp2
       go_ret
       exact ⟨by first | rfl | (simp; done) | (simp [*]; done),by repeat (first | exact Drawn0.refl _ | apply Drawn0.step)⟩
     ·rw [if_neg c5] at H
      have c5b0:(((rd_T26 l0 x5_1).f0) == x1_1) = false:=beq_eq_false_iff_ne.mpr c5
      have c5b1:(((rd_T26 l0 x5_1).f0) != x1_1) = true:=bne_iff_ne.mpr c5
      obtain rfl:=Option.some.inj H
      have p343:0 ≤ (x5_1:Int):=of_decide_eq_true as_
      have q343:x5_1 < (l0.length:Int):=of_decide_eq_true as_
      obtain ⟨ad343,A343_2,c343_2,A343_3,c343_3,e343,hx343_0,hx343_1,hx343_2,hx343_3,hl343_2,hi343_2,hl343_3,hi343_3⟩:=at_T26 HR0.out x5_1 p343 q343
      cases e343
      have HR343_2:=am_ hi343_2
      have HC343_2:=am_ hl343_2
      clear hi343_2 hl343_2
      have HR343_3:=am_ hi343_3
      have HC343_3:=am_ hl343_3
      clear hi343_3 hl343_3
      replace p343:=eq_true p343
      replace q343:=eq_true q343
      go_wp2
      go_ret
      exact ⟨by first | rfl | (simp; done) | (simp [*]; done),by repeat (first | exact Drawn0.refl _ | apply Drawn0.step)⟩
    ·rw [if_neg c4] at H
     exact absurd H (by simp)
   ·rw [if_neg c3] at H
    have c3b0:decide (x5_1 < (l0.length:Int)) = false:=decide_eq_false c3
    clear c3
    obtain rfl:=Option.some.inj H
    go_wp2
    go_ret
    exact ⟨by first | rfl | (simp; done) | (simp [*]; done),by repeat (first | exact Drawn0.refl _ | apply Drawn0.step)⟩


theorem rdF_nat (l:List S26) (k:Nat) (h:k < l.length):rd_T26 l (k:Int) = l[k]:=by
  unfold rd_T26; rw [Int.toNat_natCast,List.getD_eq_getElem?_getD,List.getElem?_eq_getElem h]; rfl
theorem kF_C {w:World} {A:Option Addr} {n:Nat} {xs:List S26} (h:kF.C w A n xs):k26.C w A n xs:=h
theorem eqFigureS_l0 (L:List S26) (hL:L.length ≤ 100000) (hb:∀ x ∈ L,x.f2.length ≤ 1000000 ∧ x.f3.length ≤ 1000000):∀ (d:Nat) (k:Nat) (i:Nat),L.length - i = d → i ≤ L.length → d + 4000001 < k → laws_eqFigureS.l0 k L L (i:Int) = some true:=by
  intro d
  induction d with
  | zero =>
    intro k i h1 h2 h3
    obtain ⟨k,rfl⟩:∃ m,k = m + 1:=⟨k - 1,by omega⟩
    simp only [laws_eqFigureS.l0]
    rw [if_neg (by omega)]
  | succ d ih =>
    intro k i h1 h2 h3
    obtain ⟨k,rfl⟩:∃ m,k = m + 1:=⟨k - 1,by omega⟩
    have hi:i < L.length:=by omega
    have hx:=hb _ (List.getElem_mem hi)
    simp only [laws_eqFigureS.l0]
    rw [if_pos (by omega),if_pos (by omega),if_pos (by omega),rdF_nat L i hi,eqFigure_refl _ _ _ _ (by omega) (by omega) k (by omega),Option.bind_some,if_pos rfl,show wrap64 ((i:Int) + 1) = ((i + 1:Nat):Int) by unfold wrap64; omega]
    exact ih k (i + 1) (by omega) (by omega) (by omega)
theorem eqFigureS_refl (L:List S26) (hL:L.length ≤ 100000) (hb:∀ x ∈ L,x.f2.length ≤ 1000000 ∧ x.f3.length ≤ 1000000) (k:Nat) (hk:4200001 < k):laws_eqFigureS.f k L L = some true:=by
  unfold laws_eqFigureS.f
  rw [if_pos rfl]
  exact eqFigureS_l0 L hL hb L.length k 0 (by omega) (by omega) (by omega)
theorem markF_at:∀ (R:List S26) (a:Int) (i:Nat) (h:i < R.length),(markF R a)[i]? = some ⟨a + sizeF (R.take i),a + sizeF (R.take i) + 1,marks R[i].f2.length (a + sizeF (R.take i) + 2),marks R[i].f3.length (a + sizeF (R.take i) + 2 + R[i].f2.length)⟩
  | x :: r,a,0,h => by simp [markF,sizeF]
  | x :: r,a,i + 1,h => by
    have ih:=markF_at r (a + 2 + x.f2.length + x.f3.length) i (by simpa using h)
    rw [markF,List.getElem?_cons_succ,ih,List.take_succ_cons,sizeF]
    have e:a + 2 + (x.f2.length:Int) + (x.f3.length:Int) + sizeF (r.take i) = a + (2 + (x.f2.length:Int) + (x.f3.length:Int) + sizeF (r.take i)):=by omega
    rw [e]
    rfl
theorem heldFigureS_l0 (R:List S26) (hl:R.length ≤ 1000) (hb:∀ x ∈ R,x.f2.length ≤ 100 ∧ x.f3.length ≤ 100):∀ (d k i:Nat),R.length - i = d → i ≤ R.length → d + 1000 < k →
    laws_heldFigureS.l0 k (markF R 101) (101 + sizeF (R.take i)) (i:Int) = some (101 + sizeF R):=by
  have HB:=am_ hb
  clear hb
  intro d
  induction d with
  | zero =>
    intro k i h1 h2 h3
    obtain ⟨k,rfl⟩:∃ m,k = m + 1:=⟨k - 1,by omega⟩
    obtain rfl:i = R.length:=by omega
    simp only [laws_heldFigureS.l0]
    rw [markF_len,if_neg (by omega),List.take_length]
  | succ d ih =>
    intro k i h1 h2 h3
    obtain ⟨k,rfl⟩:∃ m,k = m + 1:=⟨k - 1,by omega⟩
    have hi:i < R.length:=by omega
    have hx:=HB.out _ (List.getElem_mem hi)
    have hat:=markF_at R 101 i hi
    have hsz:=sizeF_b 100 (R.take i) (fun x hx => HB.out x (List.mem_of_mem_take hx))
    rw [List.length_take,Nat.min_eq_left h2] at hsz
    have hsn:101 + sizeF (R.take (i + 1)) = 101 + sizeF (R.take i) + 2 + (R[i].f2.length:Int) + (R[i].f3.length:Int):=by rw [List.take_succ_eq_append_getElem hi,sizeF_snoc]; omega
    have ih2:=ih k (i + 1) (by omega) (by omega) (by omega)
    rw [hsn] at ih2
    have hrd:rd_T26 (markF R 101) (i:Int) = ⟨101 + sizeF (R.take i),101 + sizeF (R.take i) + 1,marks R[i].f2.length (101 + sizeF (R.take i) + 2),marks R[i].f3.length (101 + sizeF (R.take i) + 2 + R[i].f2.length)⟩:=by
      unfold rd_T26
      rw [Int.toNat_natCast,List.getD_eq_getElem?_getD,hat]
      rfl
    clear hat ih hsn
    have ha:0 ≤ 101 + sizeF (R.take i) ∧ 101 + sizeF (R.take i) ≤ 1000000:=by omega
    clear hsz
    generalize 101 + sizeF (R.take i) = a at hrd ih2 ha ⊢
    have c1:(i:Int) < (R.length:Int):=by omega
    have c2:(0:Int) ≤ (i:Int):=by omega
    have q1:=heldIntS_f R[i].f2.length (a + 2) (by omega) (by omega) k (by omega)
    have q2:=heldIntS_f R[i].f3.length (a + 2 + R[i].f2.length) (by omega) (by omega) k (by omega)
    have c3:¬ a + 2 + (R[i].f2.length:Int) < 0:=by omega
    have c4:¬ a + 2 + (R[i].f2.length:Int) + (R[i].f3.length:Int) < 0:=by omega
    have e3:wrap64 ((i:Int) + 1) = ((i + 1:Nat):Int):=by unfold wrap64; omega
    have e2:wrap64 (a + 1 + 1) = a + 2:=by unfold wrap64; clear e3; omega
    have e1:wrap64 (a + 1) = a + 1:=by unfold wrap64; clear e2 e3; omega
    simp only [laws_heldFigureS.l0]
    rw [markF_len,if_pos c1,if_pos c2,hrd]
    dsimp only
    rw [if_pos rfl,e1,if_pos rfl,e2,q1,Option.bind_some,if_neg c3,q2,Option.bind_some,if_neg c4,e3]
    exact ih2
theorem heldFigureS_f (R:List S26) (hl:R.length ≤ 1000) (hb:∀ x ∈ R,x.f2.length ≤ 100 ∧ x.f3.length ≤ 100) (k:Nat) (hk:3000 < k):laws_heldFigureS.f k (markF R 101) 101 = some (101 + sizeF R):=by
  unfold laws_heldFigureS.f
  have:=heldFigureS_l0 R hl hb R.length k 0 (by omega) (by omega) (by omega)
  simpa [sizeF] using this
theorem heldFigureS_marks (K:Nat) (R:List S26) (mm:Int) (A:Option Addr) (c base:Nat) (ok:Nat → Prop) (W:World) (hr:Kd.S kF 26 W base ok (.slice A R.length c) (markF R 101)) (h:laws_heldFigureS.f K (markF R 101) 101 = some mm) :
    Calls Tryz.prog 21 #[.slice A R.length c,.int .i64 101] W fun e w' => e = .returned (.int .i64 mm) ∧ Drawn0 W w':=by
  have h1:=(Kd.S_reads' hr).2
  have h2:=laws_heldFigureS.calls K A c (markF R 101) 101 mm W (kF_C h1.2) (by rw [markF_len]; exact h1.1) h
  rw [markF_len] at h2
  exact h2
theorem markFigureS_mm (K:Nat) (hK:1000 < K) (R:List S26) (mm:Int) (hmm:101 + sizeF R = mm) (ok:Nat → Prop) (v:Value) (w0 w:World) (hB:Below w0.heap.size w0 w) (HS0:Kd.S kF 26 w w0.heap.size ok v R) (hl:R.length ≤ 1000) (hb:∀ x ∈ R,x.f2.length ≤ 100 ∧ x.f3.length ≤ 100) :
    Calls Tryz.prog 20 #[v,.int .i64 101] w fun e w' => e = .returned (.int .i64 mm) ∧ Kd.S kF 26 w' w0.heap.size ok v (markF R 101) ∧ Below w0.heap.size w0 w' ∧ Kept w w' ok:=by
  subst hmm
  exact markFigureS_any K hK R ok v w0 w hB HS0 hl hb
def AnswersS (d:Kd S26) (G:World → Prop) (f:Nat) (a b:Int) (l m:List Int) (args:Value → Array Value) (R1:List S26) (R2:Bool):Prop :=
  ∀ (A2:Option Addr) (c2:Nat) (A3:Option Addr) (c3:Nat) (W:World),Kd.C (Kd.int .i64) W A2 l.length l → l.length ≤ c2 → Kd.C (Kd.int .i64) W A3 m.length m → m.length ≤ c3 → G W →
    Calls Tryz.prog f (args (.agg #[.int .i64 a,.int .i64 b,.slice A2 l.length c2,.slice A3 m.length c3])) W fun e w' => ∃ v,e = .returned (.tuple #[v,.bool R2]) ∧ Kd.S d 26 w' W.heap.size (fun _ => True) v R1 ∧ Below W.heap.size W w'


def spec_l1In.f (a0:Int) (a1:Int) (a2:Int):Option (Bool):=if a0 ≥ a1 then (some (decide (a0 ≤ a2))) else (some false)
set_option maxHeartbeats 8000000 in
set_option maxRecDepth 100000 in
theorem spec_l1In.calls (a0:Int) (a1:Int) (a2:Int) (r:Bool) (w:World) (h:spec_l1In.f a0 a1 a2 = some r) :
    Calls Tryz.prog 46 #[.int .i64 a0,.int .i64 a1,.int .i64 a2] w fun e w' => e = .returned (.bool r) ∧ Drawn0 w w':=by
  have H:(if a0 ≥ a1 then (some (decide (a0 ≤ a2))) else (some false)) = some r:=h
  clear h
  by_cases c4:a0 ≥ a1
  · rw [if_pos c4] at H
    have c4b0:decide (a1 ≤ a0) = true:=decide_eq_true c4
    clear c4
    obtain rfl:=Option.some.inj H
    go_enter Tryz.func46,Tryz.ntmps46
    go_wp2
    go_ret
    exact ⟨by first | rfl | (simp; done) | (simp [*]; done),by repeat (first | exact Drawn0.refl _ | apply Drawn0.step)⟩
  · rw [if_neg c4] at H
    have c4b0:decide (a1 ≤ a0) = false:=decide_eq_false c4
    clear c4
    obtain rfl:=Option.some.inj H
    go_enter Tryz.func46,Tryz.ntmps46
    go_wp2
    go_ret
    exact ⟨by first | rfl | (simp; done) | (simp [*]; done),by repeat (first | exact Drawn0.refl _ | apply Drawn0.step)⟩


def spec_fiGrid.f (a0:Int) (a1:Int):Option (Bool):=(spec_l1In.f a0 1 4).bind fun t104 => (if t104 = true then ((spec_l1In.f a1 1 4).bind fun t105 => (some t105)) else (some false))
set_option maxHeartbeats 8000000 in
set_option maxRecDepth 100000 in
theorem spec_fiGrid.calls (a0:Int) (a1:Int) (r:Bool) (w:World) (h:spec_fiGrid.f a0 a1 = some r) :
    Calls Tryz.prog 86 #[.int .i64 a0,.int .i64 a1] w fun e w' => e = .returned (.bool r) ∧ Drawn0 w w':=by
  have H:((spec_l1In.f a0 1 4).bind fun t104 => (if t104 = true then ((spec_l1In.f a1 1 4).bind fun t105 => (some t105)) else (some false))) = some r:=h
  clear h
  replace H:=bi_ H
  obtain ⟨t104,A30,H⟩:=H
  replace H:(if t104 = true then ((spec_l1In.f a1 1 4).bind fun t105 => (some t105)) else (some false)) = some r:=H
  have A3:=am_ A30
  clear A30
  by_cases c4:t104 = true
  · subst c4
    have H1:((spec_l1In.f a1 1 4).bind fun t105 => (some t105)) = some r:=by rw [if_pos rfl] at H; exact H
    clear H
    have H:=H1
    clear H1
    replace H:=bi_ H
    obtain ⟨t105,A50,H⟩:=H
    replace H:(some t105) = some r:=H
    have A5:=am_ A50
    clear A50
    obtain rfl:=Option.some.inj H
    go_enter Tryz.func86,Tryz.ntmps86
    go_wp2_with (first | ((with_reducible refine gate_callee (f:=46) rfl ?_); refine goesL_ (some 6) rfl rfl Tryz.func46 (by kernel_rfl) rfl #[.int .i64 a0,.int .i64 1,.int .i64 4] rfl ob_ ?_; (with_reducible refine (spec_l1In.calls a0 1 4 true _ A3.out).mono ?_); rintro e w' ⟨rfl,⟨nd,rfl⟩⟩; refine ⟨_,rfl,?_⟩) | (go_at_call 46; (with_reducible refine (spec_l1In.calls a1 1 4 t105 _ A5.out).mono ?_); rintro e w' ⟨rfl,⟨nd,rfl⟩⟩))
    go_ret
    exact ⟨by first | rfl | (simp; done) | (simp [*]; done),by repeat (first | exact Drawn0.refl _ | apply Drawn0.step)⟩
  · replace c4:=Bool.eq_false_iff.mpr c4
    subst c4
    have H1:(some false) = some r:=by rw [if_neg (show ¬ (false = true) by decide)] at H; exact H
    clear H
    have H:=H1
    clear H1
    obtain rfl:=Option.some.inj H
    go_enter Tryz.func86,Tryz.ntmps86
    go_wp2_with (first | ((with_reducible refine gate_callee (f:=46) rfl ?_); refine goesL_ (some 6) rfl rfl Tryz.func46 (by kernel_rfl) rfl #[.int .i64 a0,.int .i64 1,.int .i64 4] rfl ob_ ?_; (with_reducible refine (spec_l1In.calls a0 1 4 false _ A3.out).mono ?_); rintro e w' ⟨rfl,⟨nd,rfl⟩⟩; refine ⟨_,rfl,?_⟩))
    go_ret
    exact ⟨by first | rfl | (simp; done) | (simp [*]; done),by repeat (first | exact Drawn0.refl _ | apply Drawn0.step)⟩


def spec_l1All.l0:Nat → Int → Int → List Int → Int → Int → Option (Bool)
  | 0,_,_,_,_,_ => none
  | k + 1,x1,x2,x9,x10,x11 => if x11 < x10 then (if 0 ≤ x11 then (if x11 < (x9.length:Int) then ((spec_l1In.f (rd x9 x11) x1 x2).bind fun t107 => (if t107 = true then (spec_l1All.l0 k x1 x2 x9 x10 (wrap64 (x11 + 1))) else (some false))) else (none)) else (none)) else (some true)
def spec_l1All.f (k:Nat) (l0:List Int) (a1:Int) (a2:Int):Option (Bool):=spec_l1All.l0 k a1 a2 l0 (l0.length:Int) 0
theorem spec_l1All.mono_l:∀ k,(∀ y0 y1 y2 y3 y4,LeO (spec_l1All.l0 k y0 y1 y2 y3 y4) (spec_l1All.l0 (k + 1) y0 y1 y2 y3 y4))
  | 0 => fun _ _ _ _ _ r h => by simp [spec_l1All.l0] at h
  | k + 1 => by
    have ih0:=spec_l1All.mono_l k
    · intro y0 y1 y2 y3 y4
      unfold spec_l1All.l0
      repeat' first | (with_reducible first | exact ih0 _ _ _ _ _ | exact LeO.refl _ | exact LeO.none _ | refine LeO.ite ?_ ?_ | refine LeO.bind ?_ (fun _ => ?_)) | exact ih0 _ _ _ _ _
theorem spec_l1All.mono:∀ a0 a1 a2 k,LeO (spec_l1All.f k a0 a1 a2) (spec_l1All.f (k + 1) a0 a1 a2):=by
  intro a0 a1 a2 k
  have ih0:=spec_l1All.mono_l k
  unfold spec_l1All.f
  repeat' first | (with_reducible first | exact ih0 _ _ _ _ _ | exact LeO.refl _ | exact LeO.none _ | refine LeO.ite ?_ ?_ | refine LeO.bind ?_ (fun _ => ?_)) | exact ih0 _ _ _ _ _
set_option maxHeartbeats 8000000 in
set_option maxRecDepth 100000 in
theorem spec_l1All.calls (k:Nat) (A0:Option Addr) (c0:Nat) (l0:List Int) (a1:Int) (a2:Int) (r:Bool) (w:World) (hr0:Kd.C (Kd.int .i64) w A0 l0.length l0) (hc0:l0.length ≤ c0) (h:spec_l1All.f k l0 a1 a2 = some r) :
    Calls Tryz.prog 112 #[.slice A0 l0.length c0,.int .i64 a1,.int .i64 a2] w fun e w' => e = .returned (.bool r) ∧ Drawn0 w w':=by
  have HR0:=am_ hr0
  have HC0:=am_ hc0
  clear hr0 hc0
  have H:(spec_l1All.l0 k a1 a2 l0 (l0.length:Int) 0) = some r:=h
  clear h
  have H':=am_ H
  clear H
  go_enter Tryz.func112,Tryz.ntmps112
  go_wp2
  go_loopg [11] k (fun kq v11 w' => ∃ (x11_1:Int),v11 = .int .i64 x11_1 ∧ Aside0 (spec_l1All.l0 kq a1 a2 l0 (l0.length:Int) x11_1 = some r) ∧ Aside0 (kq ≤ k) ∧ Drawn0 w w')
  case atStart => exact ⟨(0),rs_,H',⟨Nat.le_refl _⟩,by repeat (first | exact Drawn0.refl _ | apply Drawn0.step)⟩
  case round =>
    clear H'
    try clear c1
    try clear p2
    obtain ⟨x11_1,rfl,HA,HK1,⟨m1,rfl⟩⟩:=hrel
    cases gk with
    | zero => exact absurd HA.out (by simp [spec_l1All.l0])
    | succ k1 =>
      have H:=HA.out
      clear HA
      simp only [spec_l1All.l0] at H
      by_cases c4:x11_1 < (l0.length:Int)
      · rw [if_pos c4] at H
        have c4b0:decide (x11_1 < (l0.length:Int)) = true:=decide_eq_true c4
        clear c4
        by_cases c5:0 ≤ x11_1
        · rw [if_pos c5] at H
          have c5b0:decide (0 ≤ x11_1) = true:=decide_eq_true c5
          clear c5
          by_cases c6:x11_1 < (l0.length:Int)
          · rw [if_pos c6] at H
            have c6b0:decide (x11_1 < (l0.length:Int)) = true:=decide_eq_true c6
            clear c6
            replace H:=bi_ H
            obtain ⟨t107,A70,H⟩:=H
            replace H:(if t107 = true then (spec_l1All.l0 k1 a1 a2 l0 (l0.length:Int) (wrap64 (x11_1 + 1))) else (some false)) = some r:=H
            have A7:=am_ A70
            clear A70
            by_cases c8:t107 = true
            · subst c8
              have H1:(spec_l1All.l0 k1 a1 a2 l0 (l0.length:Int) (wrap64 (x11_1 + 1))) = some r:=by rw [if_pos rfl] at H; exact H
              clear H
              have H:=H1
              clear H1
              have H':=am_ H
              clear H
              have p106:0 ≤ (x11_1:Int):=of_decide_eq_true as_
              have q106:x11_1 < (l0.length:Int):=of_decide_eq_true as_
              obtain ⟨ad106,e106,hx106_0⟩:=Kd.at_int HR0.out x11_1 p106 q106
              cases e106
              replace p106:=eq_true p106
              replace q106:=eq_true q106
              go_wp2_with (first | ((with_reducible refine gate_callee (f:=46) rfl ?_); refine goesL_ (some 18) rfl rfl Tryz.func46 (by kernel_rfl) rfl #[.int .i64 (rd l0 x11_1),.int .i64 a1,.int .i64 a2] rfl ob_ ?_; (with_reducible refine (spec_l1In.calls (rd l0 x11_1) a1 a2 true _ A7.out).mono ?_); rintro e w' ⟨rfl,⟨nd,rfl⟩⟩; refine ⟨_,rfl,?_⟩))
              go_roundg k1
              case measure => have:=HK1.out; omega
              case rel => exact ⟨(wrap64 (x11_1 + 1)),rs_,H',⟨by have:=HK1.out; omega⟩,by repeat (first | exact Drawn0.refl _ | apply Drawn0.step)⟩
            · replace c8:=Bool.eq_false_iff.mpr c8
              subst c8
              have H1:(some false) = some r:=by rw [if_neg (show ¬ (false = true) by decide)] at H; exact H
              clear H
              have H:=H1
              clear H1
              obtain rfl:=Option.some.inj H
              have p106:0 ≤ (x11_1:Int):=of_decide_eq_true as_
              have q106:x11_1 < (l0.length:Int):=of_decide_eq_true as_
              obtain ⟨ad106,e106,hx106_0⟩:=Kd.at_int HR0.out x11_1 p106 q106
              cases e106
              replace p106:=eq_true p106
              replace q106:=eq_true q106
              go_wp2_with (first | ((with_reducible refine gate_callee (f:=46) rfl ?_); refine goesL_ (some 18) rfl rfl Tryz.func46 (by kernel_rfl) rfl #[.int .i64 (rd l0 x11_1),.int .i64 a1,.int .i64 a2] rfl ob_ ?_; (with_reducible refine (spec_l1In.calls (rd l0 x11_1) a1 a2 false _ A7.out).mono ?_); rintro e w' ⟨rfl,⟨nd,rfl⟩⟩; refine ⟨_,rfl,?_⟩))
              go_ret
              exact ⟨by first | rfl | (simp; done) | (simp [*]; done),by repeat (first | exact Drawn0.refl _ | apply Drawn0.step)⟩
          · rw [if_neg c6] at H
            exact absurd H (by simp)
        · rw [if_neg c5] at H
          exact absurd H (by simp)
      · rw [if_neg c4] at H
        have c4b0:decide (x11_1 < (l0.length:Int)) = false:=decide_eq_false c4
        clear c4
        obtain rfl:=Option.some.inj H
        go_wp2
        go_ret
        exact ⟨by first | rfl | (simp; done) | (simp [*]; done),by repeat (first | exact Drawn0.refl _ | apply Drawn0.step)⟩


mutual
def spec_fiRises.j0:Nat → List Int → Bool → Option (Bool)
 | 0,_,_ => none
 | k + 1,x0,x16 => if x16 = true then (some false) else (spec_fiRises.l0 k x0 1)
def spec_fiRises.l0:Nat → List Int → Int → Option (Bool)
 | 0,_,_ => none
 | k + 1,x0,x5 => if x5 < (x0.length:Int) then (if 0 ≤ (wrap64 (x5 - 1)) then (if (wrap64 (x5 - 1)) < (x0.length:Int) then (if 0 ≤ x5 then (if (rd x0 (wrap64 (x5 - 1))) ≥ (rd x0 x5) then (some false) else (spec_fiRises.l0 k x0 (wrap64 (x5 + 1)))) else (none)) else (none)) else (none)) else (some true)
end
def spec_fiRises.f (k:Nat) (l0:List Int) (a1:Int):Option (Bool):=if (l0.length:Int) > (wrap64 (a1 + 1)) then (spec_fiRises.j0 k l0 true) else ((spec_l1All.f k l0 0 a1).bind fun t108 => (spec_fiRises.j0 k l0 (!t108)))
theorem spec_fiRises.mono_l:∀ k,(∀ y0 y1,LeO (spec_fiRises.j0 k y0 y1) (spec_fiRises.j0 (k + 1) y0 y1)) ∧ (∀ y0 y1,LeO (spec_fiRises.l0 k y0 y1) (spec_fiRises.l0 (k + 1) y0 y1))
 | 0 => ⟨fun _ _ r h => by simp [spec_fiRises.j0] at h,fun _ _ r h => by simp [spec_fiRises.l0] at h⟩
 | k + 1 => by
  obtain ⟨ih0,ih1⟩:=spec_fiRises.mono_l k
  refine ⟨?_,?_⟩
  ·intro y0 y1
   unfold spec_fiRises.j0
   repeat' first | (with_reducible first | exact ih0 _ _ | exact ih1 _ _ | exact spec_l1All.mono _ _ _ _ | exact LeO.refl _ | exact LeO.none _ | refine LeO.ite ?_ ?_ | refine LeO.bind ?_ (fun _ => ?_)) | exact ih0 _ _ | exact ih1 _ _ | exact spec_l1All.mono _ _ _ _
  ·intro y0 y1
   unfold spec_fiRises.l0
   repeat' first | (with_reducible first | exact ih0 _ _ | exact ih1 _ _ | exact spec_l1All.mono _ _ _ _ | exact LeO.refl _ | exact LeO.none _ | refine LeO.ite ?_ ?_ | refine LeO.bind ?_ (fun _ => ?_)) | exact ih0 _ _ | exact ih1 _ _ | exact spec_l1All.mono _ _ _ _
theorem spec_fiRises.mono:∀ a0 a1 k,LeO (spec_fiRises.f k a0 a1) (spec_fiRises.f (k + 1) a0 a1):=by
 intro a0 a1 k
 obtain ⟨ih0,ih1⟩:=spec_fiRises.mono_l k
 unfold spec_fiRises.f
 repeat' first | (with_reducible first | exact ih0 _ _ | exact ih1 _ _ | exact spec_l1All.mono _ _ _ _ | exact LeO.refl _ | exact LeO.none _ | refine LeO.ite ?_ ?_ | refine LeO.bind ?_ (fun _ => ?_)) | exact ih0 _ _ | exact ih1 _ _ | exact spec_l1All.mono _ _ _ _
set_option maxHeartbeats 8000000 in
set_option maxRecDepth 100000 in
theorem spec_fiRises.calls (k:Nat) (A0:Option Addr) (c0:Nat) (l0:List Int) (a1:Int) (r:Bool) (w:World) (hr0:Kd.C (Kd.int .i64) w A0 l0.length l0) (hc0:l0.length ≤ c0) (h:spec_fiRises.f k l0 a1 = some r) :
  Calls Tryz.prog 87 #[.slice A0 l0.length c0,.int .i64 a1] w fun e w' => e = .returned (.bool r) ∧ Drawn0 w w':=by
 have HR0:=am_ hr0
 have HC0:=am_ hc0
 clear hr0 hc0
 have H:(if (l0.length:Int) > (wrap64 (a1 + 1)) then (spec_fiRises.j0 k l0 true) else ((spec_l1All.f k l0 0 a1).bind fun t108 => (spec_fiRises.j0 k l0 (!t108)))) = some r:=h
 clear h
 have HC3:=am_ H
 clear H
 go_enter Tryz.func87,Tryz.ntmps87
 go_upto_region 1 with (fail)
 repeat (go_quiet (fail); go_upto_region 1 with (fail))
 go_cut [16] (fun v16 wc => ∃ (kq:Nat) (x16_2:Bool),v16 = .bool x16_2 ∧ Aside0 (spec_fiRises.j0 kq l0 x16_2 = some r) ∧ Aside0 (kq ≤ k) ∧ Drawn0 w wc)
 case first =>
  have H:=HC3.out
  clear HC3
  by_cases c4:(l0.length:Int) > (wrap64 (a1 + 1))
  ·rw [if_pos c4] at H
   have c4b0:decide ((wrap64 (a1 + 1)) < (l0.length:Int)) = true:=decide_eq_true c4
   clear c4
   (first | rw [c4b0] | (simp only [i64_w,i32_w]; rw [c4b0]) | skip)
   have H':=am_ H
   clear H
   go_wp2
   repeat (go_quiet (fail); try go_wp2)
   go_meet
   case rel => exact ⟨_,(true),rs_,H',⟨by first | omega | exact Nat.le_refl _⟩,by repeat (first | exact Drawn0.refl _ | apply Drawn0.step)⟩
  ·rw [if_neg c4] at H
   have c4b0:decide ((wrap64 (a1 + 1)) < (l0.length:Int)) = false:=decide_eq_false c4
   clear c4
   (first | rw [c4b0] | (simp only [i64_w,i32_w]; rw [c4b0]) | skip)
   replace H:=bi_ H
   obtain ⟨t108,A50,H⟩:=H
   replace H:(spec_fiRises.j0 k l0 (!t108)) = some r:=H
   have A5:=am_ A50
   clear A50
   have H':=am_ H
   clear H
   go_wp2_with (first | (go_at_call 112; (with_reducible refine (spec_l1All.calls k _ _ l0 0 a1 t108 _ ?side1 ?side2 A5.out).mono ?_); (case side1 => repeat (first | exact HR0.out | (with_reducible refine Kd.C_alloc ?_ _) | (with_reducible refine Kd.C_drewN ?_ _) | (with_reducible refine Kd.C_drew ?_))); (case side2 => exact HC0.out); rintro e w' ⟨rfl,⟨nd,rfl⟩⟩; (try first | exact ⟨rfl,_,World.drewN_drewN _ _ _⟩ | exact ⟨rfl,_,Eq.trans (World.drewN_drewN _ _ _) (congrArg (World.drewN _) (Nat.add_assoc _ _ _))⟩)))
   repeat (go_quiet (first | (go_at_call 112; (with_reducible refine (spec_l1All.calls k _ _ l0 0 a1 t108 _ ?side1 ?side2 A5.out).mono ?_); (case side1 => repeat (first | exact HR0.out | (with_reducible refine Kd.C_alloc ?_ _) | (with_reducible refine Kd.C_drewN ?_ _) | (with_reducible refine Kd.C_drew ?_))); (case side2 => exact HC0.out); rintro e w' ⟨rfl,⟨nd,rfl⟩⟩; (try first | exact ⟨rfl,_,World.drewN_drewN _ _ _⟩ | exact ⟨rfl,_,Eq.trans (World.drewN_drewN _ _ _) (congrArg (World.drewN _) (Nat.add_assoc _ _ _))⟩))); try go_wp2_with (first | (go_at_call 112; (with_reducible refine (spec_l1All.calls k _ _ l0 0 a1 t108 _ ?side1 ?side2 A5.out).mono ?_); (case side1 => repeat (first | exact HR0.out | (with_reducible refine Kd.C_alloc ?_ _) | (with_reducible refine Kd.C_drewN ?_ _) | (with_reducible refine Kd.C_drew ?_))); (case side2 => exact HC0.out); rintro e w' ⟨rfl,⟨nd,rfl⟩⟩; (try first | exact ⟨rfl,_,World.drewN_drewN _ _ _⟩ | exact ⟨rfl,_,Eq.trans (World.drewN_drewN _ _ _) (congrArg (World.drewN _) (Nat.add_assoc _ _ _))⟩))))
   go_meet
   case rel => exact ⟨_,(!t108),rs_,H',⟨by first | omega | exact Nat.le_refl _⟩,by repeat (first | exact Drawn0.refl _ | apply Drawn0.step)⟩
 case rest =>
  clear HC3
  try clear p2
  try clear c4
  try clear c4b0
  obtain ⟨kq,x16_2,rfl,HA,HJ2,⟨mc2,rfl⟩⟩:=hcut
  cases kq with
  | zero => exact absurd HA.out (by simp [spec_fiRises.j0])
  | succ kj2 =>
   have H:=HA.out
   clear HA
   simp only [spec_fiRises.j0] at H
   by_cases c6:x16_2 = true
   ·subst c6
    have H1:(some false) = some r:=by rw [if_pos rfl] at H; exact H
    clear H
    have H:=H1
    clear H1
    obtain rfl:=Option.some.inj H
    go_wp2
    repeat (go_quiet (fail); try go_wp2)
    go_ret
    exact ⟨by first | rfl | (simp; done) | (simp [*]; done),by repeat (first | exact Drawn0.refl _ | apply Drawn0.step)⟩
   ·replace c6:=Bool.eq_false_iff.mpr c6
    subst c6
    have H1:(spec_fiRises.l0 kj2 l0 1) = some r:=by rw [if_neg (show ¬ (false = true) by decide)] at H; exact H
    clear H
    have H:=H1
    clear H1
    have H':=am_ H
    clear H
    go_wp2
    repeat (go_quiet (fail); try go_wp2)
    go_loopg [5] kj2 (fun kq v5 w' => ∃ (x5_2:Int),v5 = .int .i64 x5_2 ∧ Aside0 (spec_fiRises.l0 kq l0 x5_2 = some r) ∧ Aside0 (kq ≤ kj2) ∧ Drawn0 w w')
    case atStart => exact ⟨(1),rs_,H',⟨Nat.le_refl _⟩,by repeat (first | exact Drawn0.refl _ | apply Drawn0.step)⟩
    case round =>
     clear H'
     try clear c2
     try clear p2
     try clear c4
     try clear c4b0
     try clear c6
     try clear p6
     try clear p2
     obtain ⟨x5_2,rfl,HA,HK2,⟨m2,rfl⟩⟩:=hrel
     cases gk with
     | zero => exact absurd HA.out (by simp [spec_fiRises.l0])
     | succ k2 =>
      have H:=HA.out
      clear HA
      simp only [spec_fiRises.l0] at H
      by_cases c7:x5_2 < (l0.length:Int)
      ·rw [if_pos c7] at H
       have c7b0:decide (x5_2 < (l0.length:Int)) = true:=decide_eq_true c7
       clear c7
       obtain ⟨ji8,hji8⟩:∃ j_:Int,(wrap64 (x5_2 - 1)) = j_:=⟨_,rfl⟩
       replace H:(if 0 ≤ (ji8) then (if (ji8) < (l0.length:Int) then (if 0 ≤ x5_2 then (if (rd l0 (ji8)) ≥ (rd l0 x5_2) then (some false) else (spec_fiRises.l0 k2 l0 (wrap64 (x5_2 + 1)))) else (none)) else (none)) else (none)) = some r:=by first | (rw [hji8] at H; exact H) | (simp only [hji8] at H ⊢; exact H)
       have hji8w:(IntKind.i64.wrap (x5_2 - 1)) = ji8:=(i64_w _).trans hji8
       by_cases c9:0 ≤ (ji8)
       ·rw [if_pos c9] at H
        have c9b0:decide (0 ≤ (ji8)) = true:=decide_eq_true c9
        clear c9
        by_cases c10:(ji8) < (l0.length:Int)
        ·rw [if_pos c10] at H
         have c10b0:decide ((ji8) < (l0.length:Int)) = true:=decide_eq_true c10
         clear c10
         by_cases c11:0 ≤ x5_2
         ·rw [if_pos c11] at H
          have c11b0:decide (0 ≤ x5_2) = true:=decide_eq_true c11
          clear c11
          by_cases c12:(rd l0 (ji8)) ≥ (rd l0 x5_2)
          ·rw [if_pos c12] at H
           have c12b0:decide ((rd l0 x5_2) ≤ (rd l0 (ji8))) = true:=decide_eq_true c12
           clear c12
           obtain rfl:=Option.some.inj H
           have p109:0 ≤ ((ji8):Int):=of_decide_eq_true as_
           have q109:(ji8) < (l0.length:Int):=of_decide_eq_true as_
           obtain ⟨ad109,e109,hx109_0⟩:=Kd.at_int HR0.out (ji8) p109 q109
           cases e109
           replace p109:=eq_true p109
           replace q109:=eq_true q109
           have p110:0 ≤ (x5_2:Int):=of_decide_eq_true as_
           have q110:x5_2 < (l0.length:Int):=of_decide_eq_true as_
           obtain ⟨ad110,e110,hx110_0⟩:=Kd.at_int HR0.out x5_2 p110 q110
           obtain rfl:ad109 = ad110:=(by injection e110)
           replace p110:=eq_true p110
           replace q110:=eq_true q110
           go_wp2
           repeat (go_quiet (fail); try go_wp2)
           go_ret
           exact ⟨by first | rfl | (simp; done) | (simp only [← hji8] <;> (first | rfl | simp)) | (simp [*]; done),by repeat (first | exact Drawn0.refl _ | apply Drawn0.step)⟩
          ·rw [if_neg c12] at H
           have c12b0:decide ((rd l0 x5_2) ≤ (rd l0 (ji8))) = false:=decide_eq_false c12
           clear c12
           have H':=am_ H
           clear H
           have p109:0 ≤ ((ji8):Int):=of_decide_eq_true as_
           have q109:(ji8) < (l0.length:Int):=of_decide_eq_true as_
           obtain ⟨ad109,e109,hx109_0⟩:=Kd.at_int HR0.out (ji8) p109 q109
           cases e109
           replace p109:=eq_true p109
           replace q109:=eq_true q109
           have p110:0 ≤ (x5_2:Int):=of_decide_eq_true as_
           have q110:x5_2 < (l0.length:Int):=of_decide_eq_true as_
           obtain ⟨ad110,e110,hx110_0⟩:=Kd.at_int HR0.out x5_2 p110 q110
           obtain rfl:ad109 = ad110:=(by injection e110)
           replace p110:=eq_true p110
           replace q110:=eq_true q110
           go_wp2
           repeat (go_quiet (fail); try go_wp2)
           go_roundg k2
           case measure => have:=HJ2.out; have:=HK2.out; omega
           case rel => exact ⟨(wrap64 (x5_2 + 1)),rs_,H',⟨by have:=HJ2.out; have:=HK2.out; omega⟩,by repeat (first | exact Drawn0.refl _ | apply Drawn0.step)⟩
         ·rw [if_neg c11] at H
          exact absurd H (by simp)
        ·rw [if_neg c10] at H
         exact absurd H (by simp)
       ·rw [if_neg c9] at H
        exact absurd H (by simp)
      ·rw [if_neg c7] at H
       have c7b0:decide (x5_2 < (l0.length:Int)) = false:=decide_eq_false c7
       clear c7
       obtain rfl:=Option.some.inj H
       go_wp2
       repeat (go_quiet (fail); try go_wp2)
       go_ret
       exact ⟨by first | rfl | (simp; done) | (simp [*]; done),by repeat (first | exact Drawn0.refl _ | apply Drawn0.step)⟩


def spec_fiGood.f (k:Nat) (a0_0:Int) (a0_1:Int) (l0_2:List Int) (l0_3:List Int):Option (Bool):=(spec_fiGrid.f a0_0 a0_1).bind fun t112 => (if t112 = true then ((spec_fiRises.f k l0_2 (wrap64 ((wrap64 (a0_0 * (wrap64 (a0_1 + 1)))) - 1))).bind fun t113 => (if t113 = true then ((spec_fiRises.f k l0_3 (wrap64 ((wrap64 ((wrap64 (a0_0 + 1)) * a0_1)) - 1))).bind fun t114 => (some t114)) else (some false))) else (some false))
theorem spec_fiGood.mono:∀ a0 a1 a2 a3 k,LeO (spec_fiGood.f k a0 a1 a2 a3) (spec_fiGood.f (k + 1) a0 a1 a2 a3):=by
 intro a0 a1 a2 a3 k
 unfold spec_fiGood.f
 repeat' first | (with_reducible first | exact spec_fiRises.mono _ _ _ | exact LeO.refl _ | exact LeO.none _ | refine LeO.ite ?_ ?_ | refine LeO.bind ?_ (fun _ => ?_)) | exact spec_fiRises.mono _ _ _
set_option maxHeartbeats 8000000 in
set_option maxRecDepth 100000 in
theorem spec_fiGood.calls (k:Nat) (a0_0:Int) (a0_1:Int) (A0_2:Option Addr) (c0_2:Nat) (l0_2:List Int) (A0_3:Option Addr) (c0_3:Nat) (l0_3:List Int) (r:Bool) (w:World) (hr0_2:Kd.C (Kd.int .i64) w A0_2 l0_2.length l0_2) (hc0_2:l0_2.length ≤ c0_2) (hr0_3:Kd.C (Kd.int .i64) w A0_3 l0_3.length l0_3) (hc0_3:l0_3.length ≤ c0_3) (h:spec_fiGood.f k a0_0 a0_1 l0_2 l0_3 = some r) :
  Calls Tryz.prog 63 #[.agg #[.int .i64 a0_0,.int .i64 a0_1,.slice A0_2 l0_2.length c0_2,.slice A0_3 l0_3.length c0_3]] w fun e w' => e = .returned (.bool r) ∧ Below w.heap.size w w':=by
 have hu26:=Tryz.underlying26
 have HR0_2:=am_ hr0_2
 have HC0_2:=am_ hc0_2
 clear hr0_2 hc0_2
 have HR0_3:=am_ hr0_3
 have HC0_3:=am_ hc0_3
 clear hr0_3 hc0_3
 have HB:=am_ (Below.refl w.heap.size w)
 have H:((spec_fiGrid.f a0_0 a0_1).bind fun t112 => (if t112 = true then ((spec_fiRises.f k l0_2 (wrap64 ((wrap64 (a0_0 * (wrap64 (a0_1 + 1)))) - 1))).bind fun t113 => (if t113 = true then ((spec_fiRises.f k l0_3 (wrap64 ((wrap64 ((wrap64 (a0_0 + 1)) * a0_1)) - 1))).bind fun t114 => (some t114)) else (some false))) else (some false))) = some r:=h
 clear h
 replace H:=bi_ H
 obtain ⟨t112,A20,H⟩:=H
 replace H:(if t112 = true then ((spec_fiRises.f k l0_2 (wrap64 ((wrap64 (a0_0 * (wrap64 (a0_1 + 1)))) - 1))).bind fun t113 => (if t113 = true then ((spec_fiRises.f k l0_3 (wrap64 ((wrap64 ((wrap64 (a0_0 + 1)) * a0_1)) - 1))).bind fun t114 => (some t114)) else (some false))) else (some false)) = some r:=H
 have A2:=am_ A20
 clear A20
 by_cases c3:t112 = true
 ·subst c3
  have H1:((spec_fiRises.f k l0_2 (wrap64 ((wrap64 (a0_0 * (wrap64 (a0_1 + 1)))) - 1))).bind fun t113 => (if t113 = true then ((spec_fiRises.f k l0_3 (wrap64 ((wrap64 ((wrap64 (a0_0 + 1)) * a0_1)) - 1))).bind fun t114 => (some t114)) else (some false))) = some r:=by rw [if_pos rfl] at H; exact H
  clear H
  have H:=H1
  clear H1
  replace H:=bi_ H
  obtain ⟨t113,A40,H⟩:=H
  replace H:(if t113 = true then ((spec_fiRises.f k l0_3 (wrap64 ((wrap64 ((wrap64 (a0_0 + 1)) * a0_1)) - 1))).bind fun t114 => (some t114)) else (some false)) = some r:=H
  have A4:=am_ A40
  clear A40
  by_cases c5:t113 = true
  ·subst c5
   have H1:((spec_fiRises.f k l0_3 (wrap64 ((wrap64 ((wrap64 (a0_0 + 1)) * a0_1)) - 1))).bind fun t114 => (some t114)) = some r:=by rw [if_pos rfl] at H; exact H
   clear H
   have H:=H1
   clear H1
   replace H:=bi_ H
   obtain ⟨t114,A60,H⟩:=H
   replace H:(some t114) = some r:=H
   have A6:=am_ A60
   clear A60
   obtain rfl:=Option.some.inj H
   go_enter Tryz.func63,Tryz.ntmps63
   go_wp2_with (first | ((with_reducible refine gate_dst (N:=1) rfl ?_); refine boxE_ (N:=1) (cs:=#[.int .i64 a0_0,.int .i64 a0_1,.slice A0_2 l0_2.length c0_2,.slice A0_3 l0_3.length c0_3]) (t:=26) ?_; intro gb111 hg w7 hbox hb; have n0_:=am_ (below_step (bl0_ HB.out) hb); have n1_:=am_ (hbox); have n2_:=am_ ((bs0_ hg HB.out:w.heap.size ≤ gb111)); have n3_:=am_ ((bs0_ hg HB.out:w.heap.size ≤ gb111)); clear HB; have HB:=n0_; have BK111:=n1_; have GW111:=n2_; have GE111:=n3_; clear n0_ n1_ n2_ n3_; clear hb hbox hg; have hcz8_0:w7.cell? ⟨gb111,0,none⟩ = some (.int .i64 a0_0):=(bc_ BK111.out 0).trans rfl; have hcz8_1:w7.cell? ⟨gb111,1,none⟩ = some (.int .i64 a0_1):=(bc_ BK111.out 1).trans rfl; have hcz8_2:w7.cell? ⟨gb111,2,none⟩ = some (.slice A0_2 l0_2.length c0_2):=(bc_ BK111.out 2).trans rfl; have hcz8_3:w7.cell? ⟨gb111,3,none⟩ = some (.slice A0_3 l0_3.length c0_3):=(bc_ BK111.out 3).trans rfl; have hfz8_0:=bz_ BK111.out 0; have hfz8_1:=bz_ BK111.out 1; have hfz8_2:=bz_ BK111.out 2; have hfz8_3:=bz_ BK111.out 3) | ((with_reducible refine gate_callee (f:=86) rfl ?_); refine goesL_ (some 7) rfl rfl Tryz.func86 (by kernel_rfl) rfl #[.int .i64 a0_0,.int .i64 a0_1] rfl ob_ ?_; (with_reducible refine (spec_fiGrid.calls a0_0 a0_1 true _ A2.out).mono ?_); rintro e w' ⟨rfl,⟨nd,rfl⟩⟩; refine ⟨_,rfl,?_⟩) | (go_at_call 87; (with_reducible refine (spec_fiRises.calls k _ _ l0_2 (wrap64 ((wrap64 (a0_0 * (wrap64 (a0_1 + 1)))) - 1)) true _ ?side1 ?side2 A4.out).mono ?_); (case side1 => repeat (first | exact (Kd.C_below HR0_2.out (bl1_ HB.out GE111.out)) | (with_reducible refine Kd.C_alloc ?_ _) | (with_reducible refine Kd.C_drewN ?_ _) | (with_reducible refine Kd.C_drew ?_))); (case side2 => exact HC0_2.out); rintro e w' ⟨rfl,⟨nd,rfl⟩⟩) | (go_at_call 87; (with_reducible refine (spec_fiRises.calls k _ _ l0_3 (wrap64 ((wrap64 ((wrap64 (a0_0 + 1)) * a0_1)) - 1)) t114 _ ?side1 ?side2 A6.out).mono ?_); (case side1 => repeat (first | exact (Kd.C_below HR0_3.out (bl1_ HB.out GE111.out)) | (with_reducible refine Kd.C_alloc ?_ _) | (with_reducible refine Kd.C_drewN ?_ _) | (with_reducible refine Kd.C_drew ?_))); (case side2 => exact HC0_3.out); rintro e w' ⟨rfl,⟨nd,rfl⟩⟩))
   go_ret
   exact ⟨er_,bl1_ HB.out GE111.out⟩
  ·replace c5:=Bool.eq_false_iff.mpr c5
   subst c5
   have H1:(some false) = some r:=by rw [if_neg (show ¬ (false = true) by decide)] at H; exact H
   clear H
   have H:=H1
   clear H1
   obtain rfl:=Option.some.inj H
   go_enter Tryz.func63,Tryz.ntmps63
   go_wp2_with (first | ((with_reducible refine gate_dst (N:=1) rfl ?_); refine boxE_ (N:=1) (cs:=#[.int .i64 a0_0,.int .i64 a0_1,.slice A0_2 l0_2.length c0_2,.slice A0_3 l0_3.length c0_3]) (t:=26) ?_; intro gb111 hg w9 hbox hb; have n0_:=am_ (below_step (bl0_ HB.out) hb); have n1_:=am_ (hbox); have n2_:=am_ ((bs0_ hg HB.out:w.heap.size ≤ gb111)); have n3_:=am_ ((bs0_ hg HB.out:w.heap.size ≤ gb111)); clear HB; have HB:=n0_; have BK111:=n1_; have GW111:=n2_; have GE111:=n3_; clear n0_ n1_ n2_ n3_; clear hb hbox hg; have hcz10_0:w9.cell? ⟨gb111,0,none⟩ = some (.int .i64 a0_0):=(bc_ BK111.out 0).trans rfl; have hcz10_1:w9.cell? ⟨gb111,1,none⟩ = some (.int .i64 a0_1):=(bc_ BK111.out 1).trans rfl; have hcz10_2:w9.cell? ⟨gb111,2,none⟩ = some (.slice A0_2 l0_2.length c0_2):=(bc_ BK111.out 2).trans rfl; have hcz10_3:w9.cell? ⟨gb111,3,none⟩ = some (.slice A0_3 l0_3.length c0_3):=(bc_ BK111.out 3).trans rfl; have hfz10_0:=bz_ BK111.out 0; have hfz10_1:=bz_ BK111.out 1; have hfz10_2:=bz_ BK111.out 2; have hfz10_3:=bz_ BK111.out 3) | ((with_reducible refine gate_callee (f:=86) rfl ?_); refine goesL_ (some 7) rfl rfl Tryz.func86 (by kernel_rfl) rfl #[.int .i64 a0_0,.int .i64 a0_1] rfl ob_ ?_; (with_reducible refine (spec_fiGrid.calls a0_0 a0_1 true _ A2.out).mono ?_); rintro e w' ⟨rfl,⟨nd,rfl⟩⟩; refine ⟨_,rfl,?_⟩) | (go_at_call 87; (with_reducible refine (spec_fiRises.calls k _ _ l0_2 (wrap64 ((wrap64 (a0_0 * (wrap64 (a0_1 + 1)))) - 1)) false _ ?side1 ?side2 A4.out).mono ?_); (case side1 => repeat (first | exact (Kd.C_below HR0_2.out (bl1_ HB.out GE111.out)) | (with_reducible refine Kd.C_alloc ?_ _) | (with_reducible refine Kd.C_drewN ?_ _) | (with_reducible refine Kd.C_drew ?_))); (case side2 => exact HC0_2.out); rintro e w' ⟨rfl,⟨nd,rfl⟩⟩))
   go_ret
   exact ⟨er_,bl1_ HB.out GE111.out⟩
 ·replace c3:=Bool.eq_false_iff.mpr c3
  subst c3
  have H1:(some false) = some r:=by rw [if_neg (show ¬ (false = true) by decide)] at H; exact H
  clear H
  have H:=H1
  clear H1
  obtain rfl:=Option.some.inj H
  go_enter Tryz.func63,Tryz.ntmps63
  go_wp2_with (first | ((with_reducible refine gate_dst (N:=1) rfl ?_); refine boxE_ (N:=1) (cs:=#[.int .i64 a0_0,.int .i64 a0_1,.slice A0_2 l0_2.length c0_2,.slice A0_3 l0_3.length c0_3]) (t:=26) ?_; intro gb111 hg w11 hbox hb; have n0_:=am_ (below_step (bl0_ HB.out) hb); have n1_:=am_ (hbox); have n2_:=am_ ((bs0_ hg HB.out:w.heap.size ≤ gb111)); have n3_:=am_ ((bs0_ hg HB.out:w.heap.size ≤ gb111)); clear HB; have HB:=n0_; have BK111:=n1_; have GW111:=n2_; have GE111:=n3_; clear n0_ n1_ n2_ n3_; clear hb hbox hg; have hcz12_0:w11.cell? ⟨gb111,0,none⟩ = some (.int .i64 a0_0):=(bc_ BK111.out 0).trans rfl; have hcz12_1:w11.cell? ⟨gb111,1,none⟩ = some (.int .i64 a0_1):=(bc_ BK111.out 1).trans rfl; have hcz12_2:w11.cell? ⟨gb111,2,none⟩ = some (.slice A0_2 l0_2.length c0_2):=(bc_ BK111.out 2).trans rfl; have hcz12_3:w11.cell? ⟨gb111,3,none⟩ = some (.slice A0_3 l0_3.length c0_3):=(bc_ BK111.out 3).trans rfl; have hfz12_0:=bz_ BK111.out 0; have hfz12_1:=bz_ BK111.out 1; have hfz12_2:=bz_ BK111.out 2; have hfz12_3:=bz_ BK111.out 3) | ((with_reducible refine gate_callee (f:=86) rfl ?_); refine goesL_ (some 7) rfl rfl Tryz.func86 (by kernel_rfl) rfl #[.int .i64 a0_0,.int .i64 a0_1] rfl ob_ ?_; (with_reducible refine (spec_fiGrid.calls a0_0 a0_1 false _ A2.out).mono ?_); rintro e w' ⟨rfl,⟨nd,rfl⟩⟩; refine ⟨_,rfl,?_⟩))
  go_ret
  exact ⟨er_,bl1_ HB.out GE111.out⟩


def impl_Figure_grid.f (a0_0:Int) (a0_1:Int) (l0_2:List Int) (l0_3:List Int):Option (Int × Int):=some (a0_0,a0_1)
set_option maxHeartbeats 8000000 in
set_option maxRecDepth 100000 in
theorem impl_Figure_grid.calls (a0_0:Int) (a0_1:Int) (A0_2:Option Addr) (c0_2:Nat) (l0_2:List Int) (A0_3:Option Addr) (c0_3:Nat) (l0_3:List Int) (r1:Int) (r2:Int) (w:World) (hr0_2:Kd.C (Kd.int .i64) w A0_2 l0_2.length l0_2) (hc0_2:l0_2.length ≤ c0_2) (hr0_3:Kd.C (Kd.int .i64) w A0_3 l0_3.length l0_3) (hc0_3:l0_3.length ≤ c0_3) (h:impl_Figure_grid.f a0_0 a0_1 l0_2 l0_3 = some (r1,r2)) :
    Calls Tryz.prog 41 #[.agg #[.int .i64 a0_0,.int .i64 a0_1,.slice A0_2 l0_2.length c0_2,.slice A0_3 l0_3.length c0_3]] w fun e w' => e = .returned (.agg #[.int .i64 r1,.int .i64 r2]) ∧ Below w.heap.size w w':=by
  have hu26:=Tryz.underlying26
  have hu56:=Tryz.underlying56
  have HR0_2:=am_ hr0_2
  have HC0_2:=am_ hc0_2
  clear hr0_2 hc0_2
  have HR0_3:=am_ hr0_3
  have HC0_3:=am_ hc0_3
  clear hr0_3 hc0_3
  have HB:=am_ (Below.refl w.heap.size w)
  have H:(some (a0_0,a0_1)) = some (r1,r2):=h
  clear h
  simp only [Option.some.injEq,Prod.mk.injEq] at H
  obtain ⟨rfl,rfl⟩:=H
  go_enter Tryz.func41,Tryz.ntmps41
  go_wp2_with (first | ((with_reducible refine gate_dst (N:=1) rfl ?_); refine boxE_ (N:=1) (cs:=#[.int .i64 a0_0,.int .i64 a0_1,.slice A0_2 l0_2.length c0_2,.slice A0_3 l0_3.length c0_3]) (t:=26) ?_; intro gb232 hg w2 hbox hb; have n0_:=am_ (below_step (bl0_ HB.out) hb); have n1_:=am_ (hbox); have n2_:=am_ ((bs0_ hg HB.out:w.heap.size ≤ gb232)); have n3_:=am_ ((bs0_ hg HB.out:w.heap.size ≤ gb232)); clear HB; have HB:=n0_; have BK232:=n1_; have GW232:=n2_; have GE232:=n3_; clear n0_ n1_ n2_ n3_; clear hb hbox hg) | ((with_reducible refine gate_dst (N:=2) rfl ?_); refine boxE_ (N:=2) (cs:=#[.int .i64 0,.int .i64 0]) (t:=56) ?_; intro gb233 hg w3 hbox hb; have n0_:=am_ (bb_ BK232.out hb); have n1_:=am_ (below_step (bl1_ HB.out GE232.out) hb); have n2_:=am_ (hbox); have n3_:=am_ ((bs1_ hg HB.out GE232.out:w.heap.size ≤ gb233)); have n4_:=am_ ((bs1_ hg HB.out GE232.out:w.heap.size ≤ gb233)); have n5_:=am_ ((nl_ hg BK232.out:gb232 ≠ gb233)); have n6_:=am_ ((ng_ hg BK232.out:gb233 ≠ gb232)); clear BK232; clear HB; have BK232:=n0_; have HB:=n1_; have BK233:=n2_; have GW233:=n3_; have GE233:=n4_; have NB232_233:=n5_; have NB233_232:=n6_; clear n0_ n1_ n2_ n3_ n4_ n5_ n6_; clear hb hbox hg; have hnb4:=NB232_233.out; have hnc4:=NB233_232.out; have hcz5_0:w3.cell? ⟨gb232,0,none⟩ = some (.int .i64 a0_0):=(bc_ BK232.out 0).trans rfl; have hcz5_1:w3.cell? ⟨gb232,1,none⟩ = some (.int .i64 a0_1):=(bc_ BK232.out 1).trans rfl; have hcz5_2:w3.cell? ⟨gb232,2,none⟩ = some (.slice A0_2 l0_2.length c0_2):=(bc_ BK232.out 2).trans rfl; have hcz5_3:w3.cell? ⟨gb232,3,none⟩ = some (.slice A0_3 l0_3.length c0_3):=(bc_ BK232.out 3).trans rfl; have hfz5_0:=bz_ BK232.out 0; have hfz5_1:=bz_ BK232.out 1; have hfz5_2:=bz_ BK232.out 2; have hfz5_3:=bz_ BK232.out 3; have hcz6_0:w3.cell? ⟨gb233,0,none⟩ = some (.int .i64 0):=(bc_ BK233.out 0).trans rfl; have hcz6_1:w3.cell? ⟨gb233,1,none⟩ = some (.int .i64 0):=(bc_ BK233.out 1).trans rfl; have hfz6_0:=bz_ BK233.out 0; have hfz6_1:=bz_ BK233.out 1))
  refine bodyPost_ret (results_cell_row rfl _ _ gb233 56 #[.int .i64 a0_0,.int .i64 a0_1] (0,0) _ rfl (by (with_reducible repeat (first | refine blk_drewN ?_ _ | refine blk_drew ?_ | refine blk_alloc ?_ _)); refine blk_put (cs:=#[.int .i64 a0_0,.int .i64 0]) ?_ 1 _ rfl; (with_reducible repeat (first | refine blk_drewN ?_ _ | refine blk_drew ?_ | refine blk_alloc ?_ _)); refine blk_put (cs:=#[.int .i64 0,.int .i64 0]) ?_ 0 _ rfl; (with_reducible repeat (first | refine blk_drewN ?_ _ | refine blk_drew ?_ | refine blk_alloc ?_ _)); exact BK233.out) Tryz.underlying56 rfl (by kernel_rfl)) rfl ?_
  exact ⟨er_,bl2_ HB.out GE232.out GE233.out⟩


def impl_grid_levels.f (a0_0:Int) (a0_1:Int):Option (Int):=some (wrap64 (a0_0 * (wrap64 (a0_1 + 1))))
set_option maxHeartbeats 8000000 in
set_option maxRecDepth 100000 in
theorem impl_grid_levels.calls (a0_0:Int) (a0_1:Int) (r:Int) (w:World) (h:impl_grid_levels.f a0_0 a0_1 = some r) :
    Calls Tryz.prog 72 #[.agg #[.int .i64 a0_0,.int .i64 a0_1]] w fun e w' => e = .returned (.int .i64 r) ∧ Below w.heap.size w w':=by
  have hu56:=Tryz.underlying56
  have HB:=am_ (Below.refl w.heap.size w)
  have H:(some (wrap64 (a0_0 * (wrap64 (a0_1 + 1))))) = some r:=h
  clear h
  obtain rfl:=Option.some.inj H
  go_enter Tryz.func72,Tryz.ntmps72
  go_wp2_with (first | ((with_reducible refine gate_dst (N:=1) rfl ?_); refine boxE_ (N:=1) (cs:=#[.int .i64 a0_0,.int .i64 a0_1]) (t:=56) ?_; intro gb235 hg w2 hbox hb; have n0_:=am_ (below_step (bl0_ HB.out) hb); have n1_:=am_ (hbox); have n2_:=am_ ((bs0_ hg HB.out:w.heap.size ≤ gb235)); have n3_:=am_ ((bs0_ hg HB.out:w.heap.size ≤ gb235)); clear HB; have HB:=n0_; have BK235:=n1_; have GW235:=n2_; have GE235:=n3_; clear n0_ n1_ n2_ n3_; clear hb hbox hg; have hcz3_0:w2.cell? ⟨gb235,0,none⟩ = some (.int .i64 a0_0):=(bc_ BK235.out 0).trans rfl; have hcz3_1:w2.cell? ⟨gb235,1,none⟩ = some (.int .i64 a0_1):=(bc_ BK235.out 1).trans rfl; have hfz3_0:=bz_ BK235.out 0; have hfz3_1:=bz_ BK235.out 1))
  go_ret
  exact ⟨er_,bl1_ HB.out GE235.out⟩


def impl_grid_uprights.f (a0_0:Int) (a0_1:Int):Option (Int):=some (wrap64 (a0_1 * (wrap64 (a0_0 + 1))))
set_option maxHeartbeats 8000000 in
set_option maxRecDepth 100000 in
theorem impl_grid_uprights.calls (a0_0:Int) (a0_1:Int) (r:Int) (w:World) (h:impl_grid_uprights.f a0_0 a0_1 = some r) :
    Calls Tryz.prog 108 #[.agg #[.int .i64 a0_0,.int .i64 a0_1]] w fun e w' => e = .returned (.int .i64 r) ∧ Below w.heap.size w w':=by
  have hu56:=Tryz.underlying56
  have HB:=am_ (Below.refl w.heap.size w)
  have H:(some (wrap64 (a0_1 * (wrap64 (a0_0 + 1))))) = some r:=h
  clear h
  obtain rfl:=Option.some.inj H
  go_enter Tryz.func108,Tryz.ntmps108
  go_wp2_with (first | ((with_reducible refine gate_dst (N:=1) rfl ?_); refine boxE_ (N:=1) (cs:=#[.int .i64 a0_0,.int .i64 a0_1]) (t:=56) ?_; intro gb257 hg w2 hbox hb; have n0_:=am_ (below_step (bl0_ HB.out) hb); have n1_:=am_ (hbox); have n2_:=am_ ((bs0_ hg HB.out:w.heap.size ≤ gb257)); have n3_:=am_ ((bs0_ hg HB.out:w.heap.size ≤ gb257)); clear HB; have HB:=n0_; have BK257:=n1_; have GW257:=n2_; have GE257:=n3_; clear n0_ n1_ n2_ n3_; clear hb hbox hg; have hcz3_0:w2.cell? ⟨gb257,0,none⟩ = some (.int .i64 a0_0):=(bc_ BK257.out 0).trans rfl; have hcz3_1:w2.cell? ⟨gb257,1,none⟩ = some (.int .i64 a0_1):=(bc_ BK257.out 1).trans rfl; have hfz3_0:=bz_ BK257.out 0; have hfz3_1:=bz_ BK257.out 1))
  go_ret
  exact ⟨er_,bl1_ HB.out GE257.out⟩


def impl_within.f (a0:Int) (a1:Int) (a2:Int):Option (Bool):=if a1 ≤ a0 then (some (decide (a0 ≤ a2))) else (some false)
set_option maxHeartbeats 8000000 in
set_option maxRecDepth 100000 in
theorem impl_within.calls (a0:Int) (a1:Int) (a2:Int) (r:Bool) (w:World) (h:impl_within.f a0 a1 a2 = some r) :
    Calls Tryz.prog 71 #[.int .i64 a0,.int .i64 a1,.int .i64 a2] w fun e w' => e = .returned (.bool r) ∧ Drawn0 w w':=by
  have H:(if a1 ≤ a0 then (some (decide (a0 ≤ a2))) else (some false)) = some r:=h
  clear h
  by_cases c4:a1 ≤ a0
  · rw [if_pos c4] at H
    have c4b0:decide (a1 ≤ a0) = true:=decide_eq_true c4
    clear c4
    obtain rfl:=Option.some.inj H
    go_enter Tryz.func71,Tryz.ntmps71
    go_wp2
    go_ret
    exact ⟨by first | rfl | (simp; done) | (simp [*]; done),by repeat (first | exact Drawn0.refl _ | apply Drawn0.step)⟩
  · rw [if_neg c4] at H
    have c4b0:decide (a1 ≤ a0) = false:=decide_eq_false c4
    clear c4
    obtain rfl:=Option.some.inj H
    go_enter Tryz.func71,Tryz.ntmps71
    go_wp2
    go_ret
    exact ⟨by first | rfl | (simp; done) | (simp [*]; done),by repeat (first | exact Drawn0.refl _ | apply Drawn0.step)⟩


def impl_isGrid.f (a0:Int) (a1:Int):Option (Bool):=(impl_within.f a0 1 4).bind fun t269 => (if t269 = true then ((impl_within.f a1 1 4).bind fun t270 => (some t270)) else (some false))
set_option maxHeartbeats 8000000 in
set_option maxRecDepth 100000 in
theorem impl_isGrid.calls (a0:Int) (a1:Int) (r:Bool) (w:World) (h:impl_isGrid.f a0 a1 = some r) :
    Calls Tryz.prog 113 #[.int .i64 a0,.int .i64 a1] w fun e w' => e = .returned (.bool r) ∧ Drawn0 w w':=by
  have H:((impl_within.f a0 1 4).bind fun t269 => (if t269 = true then ((impl_within.f a1 1 4).bind fun t270 => (some t270)) else (some false))) = some r:=h
  clear h
  replace H:=bi_ H
  obtain ⟨t269,A30,H⟩:=H
  replace H:(if t269 = true then ((impl_within.f a1 1 4).bind fun t270 => (some t270)) else (some false)) = some r:=H
  have A3:=am_ A30
  clear A30
  by_cases c4:t269 = true
  · subst c4
    have H1:((impl_within.f a1 1 4).bind fun t270 => (some t270)) = some r:=by rw [if_pos rfl] at H; exact H
    clear H
    have H:=H1
    clear H1
    replace H:=bi_ H
    obtain ⟨t270,A50,H⟩:=H
    replace H:(some t270) = some r:=H
    have A5:=am_ A50
    clear A50
    obtain rfl:=Option.some.inj H
    go_enter Tryz.func113,Tryz.ntmps113
    go_wp2_with (first | ((with_reducible refine gate_callee (f:=71) rfl ?_); refine goesL_ (some 6) rfl rfl Tryz.func71 (by kernel_rfl) rfl #[.int .i64 a0,.int .i64 1,.int .i64 4] rfl ob_ ?_; (with_reducible refine (impl_within.calls a0 1 4 true _ A3.out).mono ?_); rintro e w' ⟨rfl,⟨nd,rfl⟩⟩; refine ⟨_,rfl,?_⟩) | (go_at_call 71; (with_reducible refine (impl_within.calls a1 1 4 t270 _ A5.out).mono ?_); rintro e w' ⟨rfl,⟨nd,rfl⟩⟩))
    go_ret
    exact ⟨by first | rfl | (simp; done) | (simp [*]; done),by repeat (first | exact Drawn0.refl _ | apply Drawn0.step)⟩
  · replace c4:=Bool.eq_false_iff.mpr c4
    subst c4
    have H1:(some false) = some r:=by rw [if_neg (show ¬ (false = true) by decide)] at H; exact H
    clear H
    have H:=H1
    clear H1
    obtain rfl:=Option.some.inj H
    go_enter Tryz.func113,Tryz.ntmps113
    go_wp2_with (first | ((with_reducible refine gate_callee (f:=71) rfl ?_); refine goesL_ (some 6) rfl rfl Tryz.func71 (by kernel_rfl) rfl #[.int .i64 a0,.int .i64 1,.int .i64 4] rfl ob_ ?_; (with_reducible refine (impl_within.calls a0 1 4 false _ A3.out).mono ?_); rintro e w' ⟨rfl,⟨nd,rfl⟩⟩; refine ⟨_,rfl,?_⟩))
    go_ret
    exact ⟨by first | rfl | (simp; done) | (simp [*]; done),by repeat (first | exact Drawn0.refl _ | apply Drawn0.step)⟩


def impl_isRising.l0:Nat → List Int → Int → Option (Bool)
  | 0,_,_ => none
  | k + 1,x0,x3 => if x3 < (x0.length:Int) then (if 0 ≤ x3 then (if 0 ≤ (wrap64 (x3 - 1)) then (if (wrap64 (x3 - 1)) < (x0.length:Int) then (if (rd x0 x3) ≤ (rd x0 (wrap64 (x3 - 1))) then (some false) else (impl_isRising.l0 k x0 (wrap64 (x3 + 1)))) else (none)) else (none)) else (none)) else (some true)
def impl_isRising.f (k:Nat) (l0:List Int):Option (Bool):=impl_isRising.l0 k l0 1
theorem impl_isRising.mono_l:∀ k,(∀ y0 y1,LeO (impl_isRising.l0 k y0 y1) (impl_isRising.l0 (k + 1) y0 y1))
  | 0 => fun _ _ r h => by simp [impl_isRising.l0] at h
  | k + 1 => by
    have ih0:=impl_isRising.mono_l k
    · intro y0 y1
      unfold impl_isRising.l0
      repeat' first | (with_reducible first | exact ih0 _ _ | exact LeO.refl _ | exact LeO.none _ | refine LeO.ite ?_ ?_ | refine LeO.bind ?_ (fun _ => ?_)) | exact ih0 _ _
theorem impl_isRising.mono:∀ a0 k,LeO (impl_isRising.f k a0) (impl_isRising.f (k + 1) a0):=by
  intro a0 k
  have ih0:=impl_isRising.mono_l k
  unfold impl_isRising.f
  repeat' first | (with_reducible first | exact ih0 _ _ | exact LeO.refl _ | exact LeO.none _ | refine LeO.ite ?_ ?_ | refine LeO.bind ?_ (fun _ => ?_)) | exact ih0 _ _
set_option maxHeartbeats 8000000 in
set_option maxRecDepth 100000 in
theorem impl_isRising.calls (k:Nat) (A0:Option Addr) (c0:Nat) (l0:List Int) (r:Bool) (w:World) (hr0:Kd.C (Kd.int .i64) w A0 l0.length l0) (hc0:l0.length ≤ c0) (h:impl_isRising.f k l0 = some r) :
    Calls Tryz.prog 114 #[.slice A0 l0.length c0] w fun e w' => e = .returned (.bool r) ∧ Drawn0 w w':=by
  have HR0:=am_ hr0
  have HC0:=am_ hc0
  clear hr0 hc0
  have H:(impl_isRising.l0 k l0 1) = some r:=h
  clear h
  have H':=am_ H
  clear H
  go_enter Tryz.func114,Tryz.ntmps114
  go_wp2
  repeat (go_quiet (fail); try go_wp2)
  go_loopg [3] k (fun kq v3 w' => ∃ (x3_1:Int),v3 = .int .i64 x3_1 ∧ Aside0 (impl_isRising.l0 kq l0 x3_1 = some r) ∧ Aside0 (kq ≤ k) ∧ Drawn0 w w')
  case atStart => exact ⟨(1),rs_,H',⟨Nat.le_refl _⟩,by repeat (first | exact Drawn0.refl _ | apply Drawn0.step)⟩
  case round =>
    clear H'
    try clear c1
    obtain ⟨x3_1,rfl,HA,HK1,⟨m1,rfl⟩⟩:=hrel
    cases gk with
    | zero => exact absurd HA.out (by simp [impl_isRising.l0])
    | succ k1 =>
      have H:=HA.out
      clear HA
      simp only [impl_isRising.l0] at H
      by_cases c2:x3_1 < (l0.length:Int)
      · rw [if_pos c2] at H
        have c2b0:decide (x3_1 < (l0.length:Int)) = true:=decide_eq_true c2
        clear c2
        by_cases c3:0 ≤ x3_1
        · rw [if_pos c3] at H
          have c3b0:decide (0 ≤ x3_1) = true:=decide_eq_true c3
          clear c3
          obtain ⟨ji4,hji4⟩:∃ j_:Int,(wrap64 (x3_1 - 1)) = j_:=⟨_,rfl⟩
          replace H:(if 0 ≤ (ji4) then (if (ji4) < (l0.length:Int) then (if (rd l0 x3_1) ≤ (rd l0 (ji4)) then (some false) else (impl_isRising.l0 k1 l0 (wrap64 (x3_1 + 1)))) else (none)) else (none)) = some r:=by first | (rw [hji4] at H; exact H) | (simp only [hji4] at H ⊢; exact H)
          have hji4w:(IntKind.i64.wrap (x3_1 - 1)) = ji4:=(i64_w _).trans hji4
          by_cases c5:0 ≤ (ji4)
          · rw [if_pos c5] at H
            have c5b0:decide (0 ≤ (ji4)) = true:=decide_eq_true c5
            clear c5
            by_cases c6:(ji4) < (l0.length:Int)
            · rw [if_pos c6] at H
              have c6b0:decide ((ji4) < (l0.length:Int)) = true:=decide_eq_true c6
              clear c6
              by_cases c7:(rd l0 x3_1) ≤ (rd l0 (ji4))
              · rw [if_pos c7] at H
                have c7b0:decide ((rd l0 x3_1) ≤ (rd l0 (ji4))) = true:=decide_eq_true c7
                clear c7
                obtain rfl:=Option.some.inj H
                have p271:0 ≤ (x3_1:Int):=of_decide_eq_true as_
                have q271:x3_1 < (l0.length:Int):=of_decide_eq_true as_
                obtain ⟨ad271,e271,hx271_0⟩:=Kd.at_int HR0.out x3_1 p271 q271
                cases e271
                replace p271:=eq_true p271
                replace q271:=eq_true q271
                have p272:0 ≤ ((ji4):Int):=of_decide_eq_true as_
                have q272:(ji4) < (l0.length:Int):=of_decide_eq_true as_
                obtain ⟨ad272,e272,hx272_0⟩:=Kd.at_int HR0.out (ji4) p272 q272
                obtain rfl:ad271 = ad272:=(by injection e272)
                replace p272:=eq_true p272
                replace q272:=eq_true q272
                go_wp2
                repeat (go_quiet (fail); try go_wp2)
                go_ret
                exact ⟨by first | rfl | (simp; done) | (simp only [← hji4] <;> (first | rfl | simp)) | (simp [*]; done),by repeat (first | exact Drawn0.refl _ | apply Drawn0.step)⟩
              · rw [if_neg c7] at H
                have c7b0:decide ((rd l0 x3_1) ≤ (rd l0 (ji4))) = false:=decide_eq_false c7
                clear c7
                have H':=am_ H
                clear H
                have p271:0 ≤ (x3_1:Int):=of_decide_eq_true as_
                have q271:x3_1 < (l0.length:Int):=of_decide_eq_true as_
                obtain ⟨ad271,e271,hx271_0⟩:=Kd.at_int HR0.out x3_1 p271 q271
                cases e271
                replace p271:=eq_true p271
                replace q271:=eq_true q271
                have p272:0 ≤ ((ji4):Int):=of_decide_eq_true as_
                have q272:(ji4) < (l0.length:Int):=of_decide_eq_true as_
                obtain ⟨ad272,e272,hx272_0⟩:=Kd.at_int HR0.out (ji4) p272 q272
                obtain rfl:ad271 = ad272:=(by injection e272)
                replace p272:=eq_true p272
                replace q272:=eq_true q272
                go_wp2
                repeat (go_quiet (fail); try go_wp2)
                go_roundg k1
                case measure => have:=HK1.out; omega
                case rel => exact ⟨(wrap64 (x3_1 + 1)),rs_,H',⟨by have:=HK1.out; omega⟩,by repeat (first | exact Drawn0.refl _ | apply Drawn0.step)⟩
            · rw [if_neg c6] at H
              exact absurd H (by simp)
          · rw [if_neg c5] at H
            exact absurd H (by simp)
        · rw [if_neg c3] at H
          exact absurd H (by simp)
      · rw [if_neg c2] at H
        have c2b0:decide (x3_1 < (l0.length:Int)) = false:=decide_eq_false c2
        clear c2
        obtain rfl:=Option.some.inj H
        go_wp2
        repeat (go_quiet (fail); try go_wp2)
        go_ret
        exact ⟨by first | rfl | (simp; done) | (simp [*]; done),by repeat (first | exact Drawn0.refl _ | apply Drawn0.step)⟩


set_option maxHeartbeats 2000000 in
theorem containsI_any (g:Nat) (lb:Array Value) (p:Int → Bool) (eg:∀ args w,(callFunc g args).run Tryz.prog w = .ok (.enter g args) w) (A0:Option Addr) (c0:Nat) (l0:List Int) (w:World) (hr0:Kd.C (Kd.int .i64) w A0 l0.length l0) (hp:PredI g lb p w) :
    Calls Tryz.prog 126 #[.slice A0 l0.length c0,.func (.func g) #[] lb] w fun e w' => e = .returned (.bool (l0.any p)) ∧ Below w.heap.size w w':=by
  rw [← idxFrom_ge p l0 0]
  have h:=indexI_any g lb p eg A0 c0 l0 w hr0 hp
  clear hr0 hp
  go_enter Tryz.func126,Tryz.ntmps126
  go_wp2_with (go_at_call 131; refine h.mono ?_; rintro e w' ⟨rfl,hb'⟩)
  go_ret
  exact ⟨rfl,hb'⟩


def impl_areWithin.f (l0:List Int) (a1:Int) (a2:Int):Option Bool:=some (l0.all fun x => decide (a1 ≤ x) && decide (x ≤ a2))
theorem areWithin_lit (a1 a2 x:Int) (B1 B2:Nat) (W:World) (h1:W.cell? ⟨B1,0,none⟩ = some (.int .i64 a1)) (h2:W.cell? ⟨B2,0,none⟩ = some (.int .i64 a2)) :
    Calls Tryz.prog 127 #[.int .i64 x,.pointer (some ⟨B1,0,none⟩),.pointer (some ⟨B2,0,none⟩)] W fun e w' => e = .returned (.bool (!(decide (a1 ≤ x) && decide (x ≤ a2)))) ∧ Below W.heap.size W w':=by
  have hw:impl_within.f x a1 a2 = some (decide (a1 ≤ x) && decide (x ≤ a2)):=by
    unfold impl_within.f
    by_cases h:a1 ≤ x <;> simp [h]
  have HW:=am_ hw
  clear hw
  generalize (decide (a1 ≤ x) && decide (x ≤ a2)) = r at HW ⊢
  go_enter Tryz.func127,Tryz.ntmps127
  go_wp2_with (go_at_call 71; refine (impl_within.calls _ _ _ r _ HW.out).mono ?_; rintro e w' ⟨rfl,⟨nd,rfl⟩⟩)
  go_ret
  exact ⟨by first | rfl | simp,pw_below_drewN (Below.refl _ _) nd⟩
theorem impl_areWithin.calls (A0:Option Addr) (c0:Nat) (l0:List Int) (a1:Int) (a2:Int) (r:Bool) (w:World) (hr0:Kd.C (Kd.int .i64) w A0 l0.length l0) (hc0:l0.length ≤ c0) (h:impl_areWithin.f l0 a1 a2 = some r) :
    Calls Tryz.prog 115 #[.slice A0 l0.length c0,.int .i64 a1,.int .i64 a2] w fun e w' => e = .returned (.bool r) ∧ Below w.heap.size w w':=by
  obtain rfl:=Option.some.inj h
  clear h
  have eg:∀ args w,(callFunc 127 args).run Tryz.prog w = .ok (.enter 127 args) w:=Go.Proofs.enters_of Tryz.func127 (by kernel_rfl) rfl
  have hcon:∀ W:World,Aside0 (Below w.heap.size w W) → W.cell? ⟨w.heap.size,0,none⟩ = some (.int .i64 a1) → W.cell? ⟨w.heap.size + 1,0,none⟩ = some (.int .i64 a2) → w.heap.size + 1 < W.heap.size → Calls Tryz.prog 126 #[.slice A0 l0.length c0,.func (.func 127) #[] #[.pointer (some ⟨w.heap.size,0,none⟩),.pointer (some ⟨w.heap.size + 1,0,none⟩)]] W fun e w' => e = .returned (.bool (!(l0.all fun x => decide (a1 ≤ x) && decide (x ≤ a2)))) ∧ Below W.heap.size W w':=fun W hB h1 h2 hs => by
    have hp:PredI 127 #[.pointer (some ⟨w.heap.size,0,none⟩),.pointer (some ⟨w.heap.size + 1,0,none⟩)] (fun x => !(decide (a1 ≤ x) && decide (x ≤ a2))) W:=fun W2 x hb =>
      areWithin_lit a1 a2 x _ _ W2 ((hb.cell (p:=⟨w.heap.size,0,none⟩) (by show w.heap.size < _; omega)).trans h1) ((hb.cell (p:=⟨w.heap.size + 1,0,none⟩) hs).trans h2)
    have:=containsI_any _ _ _ eg A0 c0 l0 W (Kd.C_below hr0 hB.out) hp
    rw [show (l0.any fun x => !(decide (a1 ≤ x) && decide (x ≤ a2))) = !(l0.all fun x => decide (a1 ≤ x) && decide (x ≤ a2)) by rw [List.not_all_eq_any_not]] at this
    exact this
  clear hr0 hc0 eg
  have HC:=am_ hcon
  clear hcon
  have hmf:∀ (fn:Fn) (first cap:Array Value) (w:World),(Instr.makeFunc fn first cap).run Tryz.prog w = .ok (.func fn first cap) w:=fun _ _ _ _ => rfl
  generalize (l0.all fun x => decide (a1 ≤ x) && decide (x ≤ a2)) = r at HC
  go_enter Tryz.func115,Tryz.ntmps115
  go_wp2_with (go_at_call 126; refine (HC.out _ ⟨((Below.refl _ _).alloc (Nat.le_refl _) _).alloc (by simp) _⟩ (by simp) (by simp) (by simp)).mono ?_; rintro e w' ⟨rfl,hb'⟩)
  go_ret
  exact ⟨by simp,(((Below.refl _ _).alloc (Nat.le_refl _) _).alloc (by simp) _).trans (hb'.mono (by simp; omega))⟩

end Go.Proofs.YtehjfaddhmdicaaGreatDoor.P
namespace Go.Proofs.YtehjfaddhmdicaaGreatDoor.P
open Go.RowKit Go.Proofs.YtehjfaddhmdicaaGreatDoorW.PrintWords Go.Proofs.YtehjfaddhmdicaaGreatDoorW.PrintLast Go.Proofs.YtehjfaddhmdicaaGreatDoorW.PrintMore
attribute [local go_sem] max2_int min2_int max_two min_two max_three min_three max_four min_four   -- for this text's walks alone
set_option linter.unusedVariables false
set_option linter.unusedSimpArgs false

abbrev Tt:Bool:=true
abbrev Ff:Bool:=false
section
variable {P:Program} {ops:Array Oper} {Q:Exit → Act → World → Prop} {S:World → Prop} {ds:List Nat} {md:Region.Mode} {i:Nat} {N:Option Tmp} {oi:Oper} {v:Value} {fuel:Nat} {l:Array Bool} {a a':Act} {w:World}
theorem pZ (l':Array Bool) (h:wpAnyLast P md ops Q S ds fuel l' a' w) (hi:ops[i]? = some oi:=by rfl) (hN:oi.dst = N:=by rfl) (hc:anyB md ops l l' i = true:=by exact any_of HT_.out (by kernel_rfl))
    (hQ:∀ c a w,Q (.panic c) (a.put oi.dst v) w → Q (.panic c) a w:=by exact fun _ _ _ h => h) (hw:Region.wanted oi (yielded ops a.tmps) = true:=by rfl) (hy:∀ w',(execOp a.eval oi).run P w' = .ok (.value v) w':=by (intro w'; go_simp; with_reducible rfl))
    (ha:a.put N v = a':=by (simp only [Act.put,List.setIfInBounds_toArray,List.set_cons_zero,List.set_cons_succ,i64_w,i32_w]; rfl)):wpAnyLast P md ops Q S ds (fuel + 1) l a w :=
  pure_ l' hi hN hc hQ (Or.inl ⟨hw,hy⟩) ha h
theorem pU (l':Array Bool) (h:wpAnyLast P md ops Q S ds fuel l' a' w) (hi:ops[i]? = some oi:=by rfl) (hN:oi.dst = N:=by rfl) (hc:anyB md ops l l' i = true:=by exact any_of HT_.out (by kernel_rfl))
    (hQ:∀ c a w,Q (.panic c) (a.put oi.dst undef) w → Q (.panic c) a w:=by exact fun _ _ _ h => h) (hw:Region.wanted oi (yielded ops a.tmps) = false:=by rfl)
    (ha:a.put N undef = a':=by (simp only [Act.put,List.setIfInBounds_toArray,List.set_cons_zero,List.set_cons_succ,i64_w,i32_w]; rfl)):wpAnyLast P md ops Q S ds (fuel + 1) l a w :=
  pure_ l' hi hN hc hQ (Or.inr ⟨hw,rfl⟩) ha h
theorem tZ (l':Array Bool) (h:wpAnyLast P md ops Q S ds fuel l' a' w) (hi:ops[i]? = some oi:=by rfl) (hN:oi.dst = N:=by rfl) (hc:takeB md ops ds l l' i = true:=by exact take_ofW HT_.out HW_.out (by kernel_rfl))
    (hQ:∀ c a w,Q (.panic c) (a.put oi.dst v) w → Q (.panic c) a w:=by exact fun _ _ _ h => h) (hw:Region.wanted oi (yielded ops a.tmps) = true:=by rfl) (hS:S w:=by exact hHeld) (hy:∀ w',S w' → (execOp a.eval oi).run P w' = .ok (.value v) w':=by (intro w' hS_; go_split_ands; go_simp; with_reducible rfl))
    (ha:a.put N v = a':=by (simp only [Act.put,List.setIfInBounds_toArray,List.set_cons_zero,List.set_cons_succ,i64_w,i32_w]; rfl)):wpAnyLast P md ops Q S ds (fuel + 1) l a w :=
  take_ l' hi hN hc hQ (Or.inl ⟨hw,hy⟩) hS ha h
end

end Go.Proofs.YtehjfaddhmdicaaGreatDoor.P
