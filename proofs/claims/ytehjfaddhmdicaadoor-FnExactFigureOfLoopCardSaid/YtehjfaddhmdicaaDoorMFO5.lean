/- For every input the law FnExactFigureOfLoop answers true: the program's FigureOfLoop tells what the reference's FigureOfLoop tells; no condition. (part 5 of the proof; the words of the kit's print tool and the texts of this seat, merged by a program) -/
import Derived.FnData
import Derived.Handed
import Derived.LaidHandle
import Derived.LaidLaws
import Derived.Lib.CountLaws
import Derived.Lib.Join
import Derived.Lib.SplitLaws
import Derived.Shelf.Vars
import Derived.Test.YtehjfaddhmdicaaDoorRows
import Derived.Test.YtehjfaddhmdicaaDoorMFO4
namespace Go.Proofs.YtehjfaddhmdicaaDoor.P
open Go.RowKit Go.Proofs.YtehjfaddhmdicaaDoorW.PrintWords Go.Proofs.YtehjfaddhmdicaaDoorW.PrintLast Go.Proofs.YtehjfaddhmdicaaDoorW.PrintMore
attribute [local go_sem] max2_int min2_int max_two min_two max_three min_three max_four min_four   -- for this text's walks alone
set_option linter.unusedVariables false
set_option linter.unusedSimpArgs false

mutual
def laws_FnExactFigureOfLoop.j0:Nat → ByteArray → Bool → Bool → Int → Int → List Int → List Int → Int → Int → List Int → List Int → Option (Bool)
 | 0,_,_,_,_,_,_,_,_,_,_,_ => none
 | k + 1,x0,x4,x32,x879000,x879001,x879002,x879003,x889000,x889001,x889002,x889003 => if x32 = true then (some false) else ((laws_markFigure.f k x889000 x889001 x889002 x889003 101).bind fun bt890 => ((laws_heldFigure.f k x889000 x889001 bt890.2.1 bt890.2.2 101).bind fun t893 => (if t893 < 0 then (some false) else (if t893 = bt890.1 then ((impl_FigureOfLoop.f k x0).bind fun bt894 => ((laws_eqFigure.f k bt894.1 bt894.2.1 bt894.2.2.1 bt894.2.2.2.1 x879000 x879001 x879002 x879003).bind fun t904 => (if t904 = true then (laws_FnExactFigureOfLoop.j1 k bt890.1 (bt894.2.2.2.2 != x4) x889000 x889001 bt890.2.1 bt890.2.2) else (laws_FnExactFigureOfLoop.j1 k bt890.1 true x889000 x889001 bt890.2.1 bt890.2.2)))) else (some false)))))
def laws_FnExactFigureOfLoop.j1:Nat → Int → Bool → Int → Int → List Int → List Int → Option (Bool)
 | 0,_,_,_,_,_,_ => none
 | k + 1,x7,x57,x889000,x889001,x889002,x889003 => if x57 = true then (some false) else ((laws_heldFigure.f k x889000 x889001 x889002 x889003 101).bind fun t905 => (if t905 < 0 then (some false) else (if t905 = x7 then (some true) else (some false))))
end
def laws_FnExactFigureOfLoop.f (k:Nat) (a0:ByteArray):Option (Bool):=if (a0.size:Int) > 1000000 then (some true) else ((spec_FigureOfLoop.f k a0).bind fun bt869 => ((impl_FigureOfLoop.f k a0).bind fun bt879 => ((laws_eqFigure.f k bt879.1 bt879.2.1 bt879.2.2.1 bt879.2.2.2.1 bt869.1 bt869.2.1 bt869.2.2.1 bt869.2.2.2.1).bind fun t889 => (if t889 = true then (laws_FnExactFigureOfLoop.j0 k a0 bt869.2.2.2.2 (bt879.2.2.2.2 != bt869.2.2.2.2) bt869.1 bt869.2.1 bt869.2.2.1 bt869.2.2.2.1 bt879.1 bt879.2.1 bt879.2.2.1 bt879.2.2.2.1) else (laws_FnExactFigureOfLoop.j0 k a0 bt869.2.2.2.2 true bt869.1 bt869.2.1 bt869.2.2.1 bt869.2.2.2.1 bt879.1 bt879.2.1 bt879.2.2.1 bt879.2.2.2.1)))))
theorem laws_FnExactFigureOfLoop.mono_l:∀ k,(∀ y0 y1 y2 y3 y4 y5 y6 y7 y8 y9 y10,LeO (laws_FnExactFigureOfLoop.j0 k y0 y1 y2 y3 y4 y5 y6 y7 y8 y9 y10) (laws_FnExactFigureOfLoop.j0 (k + 1) y0 y1 y2 y3 y4 y5 y6 y7 y8 y9 y10)) ∧ (∀ y0 y1 y2 y3 y4 y5,LeO (laws_FnExactFigureOfLoop.j1 k y0 y1 y2 y3 y4 y5) (laws_FnExactFigureOfLoop.j1 (k + 1) y0 y1 y2 y3 y4 y5))
 | 0 => ⟨fun _ _ _ _ _ _ _ _ _ _ _ r h => by simp [laws_FnExactFigureOfLoop.j0] at h,fun _ _ _ _ _ _ r h => by simp [laws_FnExactFigureOfLoop.j1] at h⟩
 | k + 1 => by
  obtain ⟨ih0,ih1⟩:=laws_FnExactFigureOfLoop.mono_l k
  refine ⟨?_,?_⟩
  ·intro y0 y1 y2 y3 y4 y5 y6 y7 y8 y9 y10
   unfold laws_FnExactFigureOfLoop.j0
   repeat' first | (with_reducible first | exact ih0 _ _ _ _ _ _ _ _ _ _ _ | exact ih1 _ _ _ _ _ _ | exact impl_FigureOfLoop.mono _ _ | exact laws_eqFigure.mono _ _ _ _ _ _ _ _ _ | exact laws_heldFigure.mono _ _ _ _ _ _ | exact laws_markFigure.mono _ _ _ _ _ _ | exact spec_FigureOfLoop.mono _ _ | exact LeO.refl _ | exact LeO.none _ | refine LeO.ite ?_ ?_ | refine LeO.bind ?_ (fun _ => ?_)) | exact ih0 _ _ _ _ _ _ _ _ _ _ _ | exact ih1 _ _ _ _ _ _ | exact impl_FigureOfLoop.mono _ _ | exact laws_eqFigure.mono _ _ _ _ _ _ _ _ _ | exact laws_heldFigure.mono _ _ _ _ _ _ | exact laws_markFigure.mono _ _ _ _ _ _ | exact spec_FigureOfLoop.mono _ _
  ·intro y0 y1 y2 y3 y4 y5
   unfold laws_FnExactFigureOfLoop.j1
   repeat' first | (with_reducible first | exact ih0 _ _ _ _ _ _ _ _ _ _ _ | exact ih1 _ _ _ _ _ _ | exact impl_FigureOfLoop.mono _ _ | exact laws_eqFigure.mono _ _ _ _ _ _ _ _ _ | exact laws_heldFigure.mono _ _ _ _ _ _ | exact laws_markFigure.mono _ _ _ _ _ _ | exact spec_FigureOfLoop.mono _ _ | exact LeO.refl _ | exact LeO.none _ | refine LeO.ite ?_ ?_ | refine LeO.bind ?_ (fun _ => ?_)) | exact ih0 _ _ _ _ _ _ _ _ _ _ _ | exact ih1 _ _ _ _ _ _ | exact impl_FigureOfLoop.mono _ _ | exact laws_eqFigure.mono _ _ _ _ _ _ _ _ _ | exact laws_heldFigure.mono _ _ _ _ _ _ | exact laws_markFigure.mono _ _ _ _ _ _ | exact spec_FigureOfLoop.mono _ _
theorem laws_FnExactFigureOfLoop.mono:∀ a0 k,LeO (laws_FnExactFigureOfLoop.f k a0) (laws_FnExactFigureOfLoop.f (k + 1) a0):=by
 intro a0 k
 obtain ⟨ih0,ih1⟩:=laws_FnExactFigureOfLoop.mono_l k
 unfold laws_FnExactFigureOfLoop.f
 repeat' first | (with_reducible first | exact ih0 _ _ _ _ _ _ _ _ _ _ _ | exact ih1 _ _ _ _ _ _ | exact impl_FigureOfLoop.mono _ _ | exact laws_eqFigure.mono _ _ _ _ _ _ _ _ _ | exact laws_heldFigure.mono _ _ _ _ _ _ | exact laws_markFigure.mono _ _ _ _ _ _ | exact spec_FigureOfLoop.mono _ _ | exact LeO.refl _ | exact LeO.none _ | refine LeO.ite ?_ ?_ | refine LeO.bind ?_ (fun _ => ?_)) | exact ih0 _ _ _ _ _ _ _ _ _ _ _ | exact ih1 _ _ _ _ _ _ | exact impl_FigureOfLoop.mono _ _ | exact laws_eqFigure.mono _ _ _ _ _ _ _ _ _ | exact laws_heldFigure.mono _ _ _ _ _ _ | exact laws_markFigure.mono _ _ _ _ _ _ | exact spec_FigureOfLoop.mono _ _
set_option maxHeartbeats 8000000 in
set_option maxRecDepth 100000 in
theorem laws_FnExactFigureOfLoop.calls (k:Nat) (a0:ByteArray) (r:Bool) (w:World) (hT_:TB w) (h:laws_FnExactFigureOfLoop.f k a0 = some r) :
  Calls Tryd.prog 7 #[.string a0] w fun e w' => e = .returned (.bool r) ∧ Below w.heap.size w w':=by
 have hu36:=Tryd.underlying36
 have HB:=am_ (Below.refl w.heap.size w)
 have HTB:=am_ hT_
 clear hT_
 have H:(if (a0.size:Int) > 1000000 then (some true) else ((spec_FigureOfLoop.f k a0).bind fun bt869 => ((impl_FigureOfLoop.f k a0).bind fun bt879 => ((laws_eqFigure.f k bt879.1 bt879.2.1 bt879.2.2.1 bt879.2.2.2.1 bt869.1 bt869.2.1 bt869.2.2.1 bt869.2.2.2.1).bind fun t889 => (if t889 = true then (laws_FnExactFigureOfLoop.j0 k a0 bt869.2.2.2.2 (bt879.2.2.2.2 != bt869.2.2.2.2) bt869.1 bt869.2.1 bt869.2.2.1 bt869.2.2.2.1 bt879.1 bt879.2.1 bt879.2.2.1 bt879.2.2.2.1) else (laws_FnExactFigureOfLoop.j0 k a0 bt869.2.2.2.2 true bt869.1 bt869.2.1 bt869.2.2.1 bt869.2.2.2.1 bt879.1 bt879.2.1 bt879.2.2.1 bt879.2.2.2.1)))))) = some r:=h
 clear h
 by_cases c2:(a0.size:Int) > 1000000
 ·rw [if_pos c2] at H
  have c2b0:decide (1000000 < (a0.size:Int)) = true:=decide_eq_true c2
  have c2b1:decide (1000000 < a0.size) = true:=decide_eq_true (by omega)
  clear c2
  obtain rfl:=Option.some.inj H
  go_enter Tryd.func7,Tryd.ntmps7
  go_wp2
  go_ret
  exact ⟨er_,bl0_ HB.out⟩
 ·rw [if_neg c2] at H
  have c2b0:decide (1000000 < (a0.size:Int)) = false:=decide_eq_false c2
  have c2b1:decide (1000000 < a0.size) = false:=decide_eq_false (by omega)
  clear c2
  replace H:=bi_ H
  obtain ⟨⟨t869,t870,t871,t874,t877⟩,A30,H⟩:=H
  replace H:((impl_FigureOfLoop.f k a0).bind fun bt879 => ((laws_eqFigure.f k bt879.1 bt879.2.1 bt879.2.2.1 bt879.2.2.2.1 t869 t870 t871 t874).bind fun t889 => (if t889 = true then (laws_FnExactFigureOfLoop.j0 k a0 t877 (bt879.2.2.2.2 != t877) t869 t870 t871 t874 bt879.1 bt879.2.1 bt879.2.2.1 bt879.2.2.2.1) else (laws_FnExactFigureOfLoop.j0 k a0 t877 true t869 t870 t871 t874 bt879.1 bt879.2.1 bt879.2.2.1 bt879.2.2.2.1)))) = some r:=H
  have A3:=am_ A30
  clear A30
  replace H:=bi_ H
  obtain ⟨⟨t879,t880,t881,t884,t887⟩,A40,H⟩:=H
  replace H:((laws_eqFigure.f k t879 t880 t881 t884 t869 t870 t871 t874).bind fun t889 => (if t889 = true then (laws_FnExactFigureOfLoop.j0 k a0 t877 (t887 != t877) t869 t870 t871 t874 t879 t880 t881 t884) else (laws_FnExactFigureOfLoop.j0 k a0 t877 true t869 t870 t871 t874 t879 t880 t881 t884))) = some r:=H
  have A4:=am_ A40
  clear A40
  have HC5:=am_ H
  clear H
  go_enter Tryd.func7,Tryd.ntmps7
  go_upto_region 5 with (first | ((with_reducible refine gate_callee (f:=26) rfl ?_); refine goesL_ (some 16) rfl rfl Tryd.func26 (by kernel_rfl) rfl #[.string a0] rfl ob_ ?_; (with_reducible refine (spec_FigureOfLoop.calls k a0 t869 t870 t871 t874 t877 _ A3.out).mono ?_); rintro e w6 ⟨v872,v875,rfl,ho0,ho1,hb⟩; refine ⟨_,rfl,?_⟩; have n0_:=am_ (Kd.R_lower ho0 (below_size (bl0_ HB.out))); have n1_:=am_ (Kd.R_lower ho1 (below_size (bl0_ HB.out))); have n2_:=am_ (below_step (bl0_ HB.out) hb); clear HB; have HO873:=n0_; have HO876:=n1_; have HB:=n2_; clear n0_ n1_ n2_; (try clear hb); (try clear hb2); (try clear hk); (try clear hi); (try clear ho0); (try clear ho1)) | ((with_reducible refine gate_dst (N:=3) rfl ?_); refine boxE_ (N:=3) (cs:=#[.int .i64 0,.int .i64 0,.slice none 0 0,.slice none 0 0]) (t:=36) ?_; intro gb878 hg w7 hbox hb; have n0_:=am_ (Kd.R_below (kr_ HO873.out) hb); have n1_:=am_ (Kd.R_below (kr_ HO876.out) hb); have n2_:=am_ (below_step (bl0_ HB.out) hb); have n3_:=am_ (hbox); have n4_:=am_ ((bs0_ hg HB.out:w.heap.size ≤ gb878)); have n5_:=am_ ((bs0_ hg HB.out:w.heap.size ≤ gb878)); clear HO873; clear HO876; clear HB; have HO873:=n0_; have HO876:=n1_; have HB:=n2_; have BK878:=n3_; have GW878:=n4_; have GE878:=n5_; clear n0_ n1_ n2_ n3_ n4_ n5_; clear hb hbox hg; have hcz8_0:w7.cell? ⟨gb878,0,none⟩ = some (.int .i64 0):=(bc_ BK878.out 0).trans rfl; have hcz8_1:w7.cell? ⟨gb878,1,none⟩ = some (.int .i64 0):=(bc_ BK878.out 1).trans rfl; have hcz8_2:w7.cell? ⟨gb878,2,none⟩ = some (.slice none 0 0):=(bc_ BK878.out 2).trans rfl; have hcz8_3:w7.cell? ⟨gb878,3,none⟩ = some (.slice none 0 0):=(bc_ BK878.out 3).trans rfl; have hfz8_0:=bz_ BK878.out 0; have hfz8_1:=bz_ BK878.out 1; have hfz8_2:=bz_ BK878.out 2; have hfz8_3:=bz_ BK878.out 3; obtain ⟨Ao9,co9,eo9⟩:=Kd.R_slice HO873.out; subst eo9; obtain ⟨Ao10,co10,eo10⟩:=Kd.R_slice HO876.out; subst eo10) | ((with_reducible refine gate_callee (f:=27) rfl ?_); refine goesL_ (some 21) rfl rfl Tryd.func27 (by kernel_rfl) rfl #[.string a0] rfl ob_ ?_; (with_reducible refine (impl_FigureOfLoop.calls k a0 t879 t880 t881 t884 t887 _ (TB.below HTB.out (bl1_ HB.out GE878.out)) A4.out).mono ?_); rintro e w11 ⟨v882,v885,rfl,ho0,ho1,hb⟩; refine ⟨_,rfl,?_⟩; have n0_:=am_ (Kd.R_mono (Kd.R_told (Kd.R_told (Kd.R_old (by (with_reducible repeat (first | apply Kd.R_alloc | apply Kd.R_drewN | apply Kd.R_drew)); exact (Kd.R_mono (Kd.R_far (p:=⟨gb878,3,none⟩) (Kd.R_far (p:=⟨gb878,2,none⟩) (Kd.R_far (p:=⟨gb878,1,none⟩) (Kd.R_far (p:=⟨gb878,0,none⟩) (Kd.R_types HO873.out BK878.out (by decide)) (fun _ hk => hk.2) (.int .i64 t869)) (fun _ hk => hk.2) (.int .i64 t870)) (fun _ hk => hk.2) (.slice Ao9 t871.length co9)) (fun _ hk => hk.2) (.slice Ao10 t874.length co10)) (fun _ h_ => h_.1))) hb) (Kd.R_base ho0)) (Kd.R_base ho1)) (fun _ h_ => h_.1)); have n1_:=am_ (Kd.R_mono (Kd.R_told (Kd.R_told (Kd.R_old (by (with_reducible repeat (first | apply Kd.R_alloc | apply Kd.R_drewN | apply Kd.R_drew)); exact (Kd.R_mono (Kd.R_far (p:=⟨gb878,3,none⟩) (Kd.R_far (p:=⟨gb878,2,none⟩) (Kd.R_far (p:=⟨gb878,1,none⟩) (Kd.R_far (p:=⟨gb878,0,none⟩) (Kd.R_types HO876.out BK878.out (by decide)) (fun _ hk => hk.2) (.int .i64 t869)) (fun _ hk => hk.2) (.int .i64 t870)) (fun _ hk => hk.2) (.slice Ao9 t871.length co9)) (fun _ hk => hk.2) (.slice Ao10 t874.length co10)) (fun _ h_ => h_.1))) hb) (Kd.R_base ho0)) (Kd.R_base ho1)) (fun _ h_ => h_.1)); have n2_:=am_ (Kd.R_lower (Kd.R_new' (Kd.R_new' ho0 (Kd.R_lt (by (with_reducible repeat (first | apply Kd.R_alloc | apply Kd.R_drewN | apply Kd.R_drew)); exact (Kd.R_mono (Kd.R_far (p:=⟨gb878,3,none⟩) (Kd.R_far (p:=⟨gb878,2,none⟩) (Kd.R_far (p:=⟨gb878,1,none⟩) (Kd.R_far (p:=⟨gb878,0,none⟩) (Kd.R_types HO873.out BK878.out (by decide)) (fun _ hk => hk.2) (.int .i64 t869)) (fun _ hk => hk.2) (.int .i64 t870)) (fun _ hk => hk.2) (.slice Ao9 t871.length co9)) (fun _ hk => hk.2) (.slice Ao10 t874.length co10)) (fun _ h_ => h_.1))))) (Kd.R_lt (by (with_reducible repeat (first | apply Kd.R_alloc | apply Kd.R_drewN | apply Kd.R_drew)); exact (Kd.R_mono (Kd.R_far (p:=⟨gb878,3,none⟩) (Kd.R_far (p:=⟨gb878,2,none⟩) (Kd.R_far (p:=⟨gb878,1,none⟩) (Kd.R_far (p:=⟨gb878,0,none⟩) (Kd.R_types HO876.out BK878.out (by decide)) (fun _ hk => hk.2) (.int .i64 t869)) (fun _ hk => hk.2) (.int .i64 t870)) (fun _ hk => hk.2) (.slice Ao9 t871.length co9)) (fun _ hk => hk.2) (.slice Ao10 t874.length co10)) (fun _ h_ => h_.1))))) (below_size (bl1_ HB.out GE878.out))); have n3_:=am_ (Kd.R_lower (Kd.R_new' (Kd.R_new' ho1 (Kd.R_lt (by (with_reducible repeat (first | apply Kd.R_alloc | apply Kd.R_drewN | apply Kd.R_drew)); exact (Kd.R_mono (Kd.R_far (p:=⟨gb878,3,none⟩) (Kd.R_far (p:=⟨gb878,2,none⟩) (Kd.R_far (p:=⟨gb878,1,none⟩) (Kd.R_far (p:=⟨gb878,0,none⟩) (Kd.R_types HO873.out BK878.out (by decide)) (fun _ hk => hk.2) (.int .i64 t869)) (fun _ hk => hk.2) (.int .i64 t870)) (fun _ hk => hk.2) (.slice Ao9 t871.length co9)) (fun _ hk => hk.2) (.slice Ao10 t874.length co10)) (fun _ h_ => h_.1))))) (Kd.R_lt (by (with_reducible repeat (first | apply Kd.R_alloc | apply Kd.R_drewN | apply Kd.R_drew)); exact (Kd.R_mono (Kd.R_far (p:=⟨gb878,3,none⟩) (Kd.R_far (p:=⟨gb878,2,none⟩) (Kd.R_far (p:=⟨gb878,1,none⟩) (Kd.R_far (p:=⟨gb878,0,none⟩) (Kd.R_types HO876.out BK878.out (by decide)) (fun _ hk => hk.2) (.int .i64 t869)) (fun _ hk => hk.2) (.int .i64 t870)) (fun _ hk => hk.2) (.slice Ao9 t871.length co9)) (fun _ hk => hk.2) (.slice Ao10 t874.length co10)) (fun _ h_ => h_.1))))) (below_size (bl1_ HB.out GE878.out))); have n4_:=am_ (blk_below (g:=gb878) (o:=.cells #[.int .i64 t869,.int .i64 t870,.slice Ao9 t871.length co9,.slice Ao10 t874.length co10] 36 (0,0)) (by (with_reducible repeat (first | refine blk_drewN ?_ _ | refine blk_drew ?_ | refine blk_alloc ?_ _)); refine blk_put (cs:=#[.int .i64 t869,.int .i64 t870,.slice Ao9 t871.length co9,.slice none 0 0]) ?_ 3 _ rfl; (with_reducible repeat (first | refine blk_drewN ?_ _ | refine blk_drew ?_ | refine blk_alloc ?_ _)); refine blk_put (cs:=#[.int .i64 t869,.int .i64 t870,.slice none 0 0,.slice none 0 0]) ?_ 2 _ rfl; (with_reducible repeat (first | refine blk_drewN ?_ _ | refine blk_drew ?_ | refine blk_alloc ?_ _)); refine blk_put (cs:=#[.int .i64 t869,.int .i64 0,.slice none 0 0,.slice none 0 0]) ?_ 1 _ rfl; (with_reducible repeat (first | refine blk_drewN ?_ _ | refine blk_drew ?_ | refine blk_alloc ?_ _)); refine blk_put (cs:=#[.int .i64 0,.int .i64 0,.slice none 0 0,.slice none 0 0]) ?_ 0 _ rfl; (with_reducible repeat (first | refine blk_drewN ?_ _ | refine blk_drew ?_ | refine blk_alloc ?_ _)); exact BK878.out) hb); have n5_:=am_ (below_step (bl1_ HB.out GE878.out) hb); clear HO873; clear HO876; clear BK878; clear HB; have HO873:=n0_; have HO876:=n1_; have HO883:=n2_; have HO886:=n3_; have BK878:=n4_; have HB:=n5_; clear n0_ n1_ n2_ n3_ n4_ n5_; (try clear hb); (try clear hb2); (try clear hk); (try clear hi); (try clear ho0); (try clear ho1)) | ((with_reducible refine gate_dst (N:=5) rfl ?_); refine boxE_ (N:=5) (cs:=#[.int .i64 0,.int .i64 0,.slice none 0 0,.slice none 0 0]) (t:=36) ?_; intro gb888 hg w12 hbox hb; have n0_:=am_ (Kd.R_below (kr_ HO873.out) hb); have n1_:=am_ (Kd.R_below (kr_ HO876.out) hb); have n2_:=am_ (Kd.R_below (kr_ HO883.out) hb); have n3_:=am_ (Kd.R_below (kr_ HO886.out) hb); have n4_:=am_ (bb_ BK878.out hb); have n5_:=am_ (below_step (bl1_ HB.out GE878.out) hb); have n6_:=am_ (hbox); have n7_:=am_ ((bs1_ hg HB.out GE878.out:w.heap.size ≤ gb888)); have n8_:=am_ ((bs1_ hg HB.out GE878.out:w.heap.size ≤ gb888)); have n9_:=am_ ((nl_ hg BK878.out:gb878 ≠ gb888)); have n10_:=am_ ((ng_ hg BK878.out:gb888 ≠ gb878)); clear HO873; clear HO876; clear HO883; clear HO886; clear BK878; clear HB; have HO873:=n0_; have HO876:=n1_; have HO883:=n2_; have HO886:=n3_; have BK878:=n4_; have HB:=n5_; have BK888:=n6_; have GW888:=n7_; have GE888:=n8_; have NB878_888:=n9_; have NB888_878:=n10_; clear n0_ n1_ n2_ n3_ n4_ n5_ n6_ n7_ n8_ n9_ n10_; clear hb hbox hg; have hnb13:=NB888_878.out; have hnc13:=NB878_888.out; have hcz14_0:w12.cell? ⟨gb888,0,none⟩ = some (.int .i64 0):=(bc_ BK888.out 0).trans rfl; have hcz14_1:w12.cell? ⟨gb888,1,none⟩ = some (.int .i64 0):=(bc_ BK888.out 1).trans rfl; have hcz14_2:w12.cell? ⟨gb888,2,none⟩ = some (.slice none 0 0):=(bc_ BK888.out 2).trans rfl; have hcz14_3:w12.cell? ⟨gb888,3,none⟩ = some (.slice none 0 0):=(bc_ BK888.out 3).trans rfl; have hfz14_0:=bz_ BK888.out 0; have hfz14_1:=bz_ BK888.out 1; have hfz14_2:=bz_ BK888.out 2; have hfz14_3:=bz_ BK888.out 3; obtain ⟨Ao15,co15,eo15⟩:=Kd.R_slice HO883.out; subst eo15; obtain ⟨Ao16,co16,eo16⟩:=Kd.R_slice HO886.out; subst eo16))
  (try simp only [Act.put,List.setIfInBounds_toArray,List.set_cons_zero,List.set_cons_succ])
  go_cut [32] (fun v32 wc => ∃ (kq:Nat) (x32_4:Bool),v32 = .bool x32_4 ∧ Aside0 (laws_FnExactFigureOfLoop.j0 kq a0 t877 x32_4 t869 t870 t871 t874 t879 t880 t881 t884 = some r) ∧ Aside0 (kq ≤ k) ∧ Aside0 (Kd.R (Kd.int .i64) 3 wc w.heap.size (fun k_ => some k_ ≠ ((.slice Ao10 t874.length co10):Value).ownBlock ∧ some k_ ≠ ((.slice Ao15 t881.length co15):Value).ownBlock ∧ some k_ ≠ ((.slice Ao16 t884.length co16):Value).ownBlock) (.slice Ao9 t871.length co9) t871) ∧ Aside0 (Kd.R (Kd.int .i64) 3 wc w.heap.size (fun k_ => some k_ ≠ ((.slice Ao9 t871.length co9):Value).ownBlock ∧ some k_ ≠ ((.slice Ao15 t881.length co15):Value).ownBlock ∧ some k_ ≠ ((.slice Ao16 t884.length co16):Value).ownBlock) (.slice Ao10 t874.length co10) t874) ∧ Aside0 (Kd.R (Kd.int .i64) 3 wc w.heap.size (fun k_ => some k_ ≠ ((.slice Ao9 t871.length co9):Value).ownBlock ∧ some k_ ≠ ((.slice Ao10 t874.length co10):Value).ownBlock ∧ some k_ ≠ ((.slice Ao16 t884.length co16):Value).ownBlock) (.slice Ao15 t881.length co15) t881) ∧ Aside0 (Kd.R (Kd.int .i64) 3 wc w.heap.size (fun k_ => some k_ ≠ ((.slice Ao9 t871.length co9):Value).ownBlock ∧ some k_ ≠ ((.slice Ao10 t874.length co10):Value).ownBlock ∧ some k_ ≠ ((.slice Ao15 t881.length co15):Value).ownBlock) (.slice Ao16 t884.length co16) t884) ∧ Aside0 (wc.heap[gb878]? = some (.cells #[.int .i64 t869,.int .i64 t870,(.slice Ao9 t871.length co9),(.slice Ao10 t874.length co10)] 36 (0,0))) ∧ Aside0 (wc.heap[gb888]? = some (.cells #[.int .i64 t879,.int .i64 t880,(.slice Ao15 t881.length co15),(.slice Ao16 t884.length co16)] 36 (0,0))) ∧ Aside0 (Below w.heap.size w wc))
  case first =>
   have H:=HC5.out
   clear HC5
   replace H:=bi_ H
   obtain ⟨t889,A170,H⟩:=H
   replace H:(if t889 = true then (laws_FnExactFigureOfLoop.j0 k a0 t877 (t887 != t877) t869 t870 t871 t874 t879 t880 t881 t884) else (laws_FnExactFigureOfLoop.j0 k a0 t877 true t869 t870 t871 t874 t879 t880 t881 t884)) = some r:=H
   have A17:=am_ A170
   clear A170
   by_cases c18:t889 = true
   ·subst c18
    have H1:(laws_FnExactFigureOfLoop.j0 k a0 t877 (t887 != t877) t869 t870 t871 t874 t879 t880 t881 t884) = some r:=by rw [if_pos rfl] at H; exact H
    clear H
    have H:=H1
    clear H1
    have H':=am_ H
    clear H
    have hnb19:=NB888_878.out
    have hnc19:=NB878_888.out
    have hcz20_0:w12.cell? ⟨gb888,0,none⟩ = some (.int .i64 0):=(bc_ BK888.out 0).trans rfl
    have hcz20_1:w12.cell? ⟨gb888,1,none⟩ = some (.int .i64 0):=(bc_ BK888.out 1).trans rfl
    have hcz20_2:w12.cell? ⟨gb888,2,none⟩ = some (.slice none 0 0):=(bc_ BK888.out 2).trans rfl
    have hcz20_3:w12.cell? ⟨gb888,3,none⟩ = some (.slice none 0 0):=(bc_ BK888.out 3).trans rfl
    have hfz20_0:=bz_ BK888.out 0
    have hfz20_1:=bz_ BK888.out 1
    have hfz20_2:=bz_ BK888.out 2
    have hfz20_3:=bz_ BK888.out 3
    have hcz21_0:w12.cell? ⟨gb878,0,none⟩ = some (.int .i64 t869):=(bc_ BK878.out 0).trans rfl
    have hcz21_1:w12.cell? ⟨gb878,1,none⟩ = some (.int .i64 t870):=(bc_ BK878.out 1).trans rfl
    have hcz21_2:w12.cell? ⟨gb878,2,none⟩ = some (.slice Ao9 t871.length co9):=(bc_ BK878.out 2).trans rfl
    have hcz21_3:w12.cell? ⟨gb878,3,none⟩ = some (.slice Ao10 t874.length co10):=(bc_ BK878.out 3).trans rfl
    have hfz21_0:=bz_ BK878.out 0
    have hfz21_1:=bz_ BK878.out 1
    have hfz21_2:=bz_ BK878.out 2
    have hfz21_3:=bz_ BK878.out 3
    go_wp2_with (first | ((with_reducible refine gate_callee (f:=23) rfl ?_); refine goesL_ (some 26) rfl rfl Tryd.func23 (by kernel_rfl) rfl #[.agg #[.int .i64 t879,.int .i64 t880,.slice Ao15 t881.length co15,.slice Ao16 t884.length co16],.agg #[.int .i64 t869,.int .i64 t870,.slice Ao9 t871.length co9,.slice Ao10 t874.length co10]] rfl ob_ ?_; (with_reducible refine (laws_eqFigure.calls k t879 t880 _ _ t881 _ _ t884 t869 t870 _ _ t871 _ _ t874 true _ ?side1 ?side2 ?side3 ?side4 ?side5 ?side6 ?side7 ?side8 A17.out).mono ?_); (case side1 => refine (Kd.R_reads' (e:=3) (base:=w.heap.size) (ok:=fun k_ => ((some k_ ≠ (.slice Ao16 t884.length co16:Value).ownBlock ∧ some k_ ≠ (.slice Ao9 t871.length co9:Value).ownBlock) ∧ some k_ ≠ (.slice Ao10 t874.length co10:Value).ownBlock)) (n:=t881.length) (c:=co15) ?_).2.2; exact (by (with_reducible repeat (first | apply Kd.R_alloc | apply Kd.R_drewN | apply Kd.R_drew)); exact (Kd.R_mono (Kd.R_far (p:=⟨gb888,3,none⟩) (Kd.R_far (p:=⟨gb888,2,none⟩) (Kd.R_far (p:=⟨gb888,1,none⟩) (Kd.R_far (p:=⟨gb888,0,none⟩) (Kd.R_types HO883.out BK888.out (by decide)) (fun _ hk => hk.2) (.int .i64 t879)) (fun _ hk => hk.2) (.int .i64 t880)) (fun _ hk => hk.2) (.slice Ao15 t881.length co15)) (fun _ hk => hk.2) (.slice Ao16 t884.length co16)) (fun _ h_ => h_.1)))); (case side2 => exact (Kd.R_reads' HO883.out).2.1); (case side3 => refine (Kd.R_reads' (e:=3) (base:=w.heap.size) (ok:=fun k_ => ((some k_ ≠ (.slice Ao15 t881.length co15:Value).ownBlock ∧ some k_ ≠ (.slice Ao9 t871.length co9:Value).ownBlock) ∧ some k_ ≠ (.slice Ao10 t874.length co10:Value).ownBlock)) (n:=t884.length) (c:=co16) ?_).2.2; exact (by (with_reducible repeat (first | apply Kd.R_alloc | apply Kd.R_drewN | apply Kd.R_drew)); exact (Kd.R_mono (Kd.R_far (p:=⟨gb888,3,none⟩) (Kd.R_far (p:=⟨gb888,2,none⟩) (Kd.R_far (p:=⟨gb888,1,none⟩) (Kd.R_far (p:=⟨gb888,0,none⟩) (Kd.R_types HO886.out BK888.out (by decide)) (fun _ hk => hk.2) (.int .i64 t879)) (fun _ hk => hk.2) (.int .i64 t880)) (fun _ hk => hk.2) (.slice Ao15 t881.length co15)) (fun _ hk => hk.2) (.slice Ao16 t884.length co16)) (fun _ h_ => h_.1)))); (case side4 => exact (Kd.R_reads' HO886.out).2.1); (case side5 => refine (Kd.R_reads' (e:=3) (base:=w.heap.size) (ok:=fun k_ => ((some k_ ≠ (.slice Ao10 t874.length co10:Value).ownBlock ∧ some k_ ≠ (.slice Ao15 t881.length co15:Value).ownBlock) ∧ some k_ ≠ (.slice Ao16 t884.length co16:Value).ownBlock)) (n:=t871.length) (c:=co9) ?_).2.2; exact (by (with_reducible repeat (first | apply Kd.R_alloc | apply Kd.R_drewN | apply Kd.R_drew)); exact (Kd.R_mono (Kd.R_far (p:=⟨gb888,3,none⟩) (Kd.R_far (p:=⟨gb888,2,none⟩) (Kd.R_far (p:=⟨gb888,1,none⟩) (Kd.R_far (p:=⟨gb888,0,none⟩) (Kd.R_types HO873.out BK888.out (by decide)) (fun _ hk => hk.2) (.int .i64 t879)) (fun _ hk => hk.2) (.int .i64 t880)) (fun _ hk => hk.2) (.slice Ao15 t881.length co15)) (fun _ hk => hk.2) (.slice Ao16 t884.length co16)) (fun _ h_ => h_.1)))); (case side6 => exact (Kd.R_reads' HO873.out).2.1); (case side7 => refine (Kd.R_reads' (e:=3) (base:=w.heap.size) (ok:=fun k_ => ((some k_ ≠ (.slice Ao9 t871.length co9:Value).ownBlock ∧ some k_ ≠ (.slice Ao15 t881.length co15:Value).ownBlock) ∧ some k_ ≠ (.slice Ao16 t884.length co16:Value).ownBlock)) (n:=t874.length) (c:=co10) ?_).2.2; exact (by (with_reducible repeat (first | apply Kd.R_alloc | apply Kd.R_drewN | apply Kd.R_drew)); exact (Kd.R_mono (Kd.R_far (p:=⟨gb888,3,none⟩) (Kd.R_far (p:=⟨gb888,2,none⟩) (Kd.R_far (p:=⟨gb888,1,none⟩) (Kd.R_far (p:=⟨gb888,0,none⟩) (Kd.R_types HO876.out BK888.out (by decide)) (fun _ hk => hk.2) (.int .i64 t879)) (fun _ hk => hk.2) (.int .i64 t880)) (fun _ hk => hk.2) (.slice Ao15 t881.length co15)) (fun _ hk => hk.2) (.slice Ao16 t884.length co16)) (fun _ h_ => h_.1)))); (case side8 => exact (Kd.R_reads' HO876.out).2.1); rintro e w22 ⟨rfl,hb⟩; refine ⟨_,rfl,?_⟩; have n0_:=am_ (Kd.R_below (by (with_reducible repeat (first | apply Kd.R_alloc | apply Kd.R_drewN | apply Kd.R_drew)); exact (Kd.R_mono (Kd.R_far (p:=⟨gb888,3,none⟩) (Kd.R_far (p:=⟨gb888,2,none⟩) (Kd.R_far (p:=⟨gb888,1,none⟩) (Kd.R_far (p:=⟨gb888,0,none⟩) (Kd.R_types HO873.out BK888.out (by decide)) (fun _ hk => hk.2) (.int .i64 t879)) (fun _ hk => hk.2) (.int .i64 t880)) (fun _ hk => hk.2) (.slice Ao15 t881.length co15)) (fun _ hk => hk.2) (.slice Ao16 t884.length co16)) (fun _ h_ => h_.1))) hb); have n1_:=am_ (Kd.R_below (by (with_reducible repeat (first | apply Kd.R_alloc | apply Kd.R_drewN | apply Kd.R_drew)); exact (Kd.R_mono (Kd.R_far (p:=⟨gb888,3,none⟩) (Kd.R_far (p:=⟨gb888,2,none⟩) (Kd.R_far (p:=⟨gb888,1,none⟩) (Kd.R_far (p:=⟨gb888,0,none⟩) (Kd.R_types HO876.out BK888.out (by decide)) (fun _ hk => hk.2) (.int .i64 t879)) (fun _ hk => hk.2) (.int .i64 t880)) (fun _ hk => hk.2) (.slice Ao15 t881.length co15)) (fun _ hk => hk.2) (.slice Ao16 t884.length co16)) (fun _ h_ => h_.1))) hb); have n2_:=am_ (Kd.R_below (by (with_reducible repeat (first | apply Kd.R_alloc | apply Kd.R_drewN | apply Kd.R_drew)); exact (Kd.R_mono (Kd.R_far (p:=⟨gb888,3,none⟩) (Kd.R_far (p:=⟨gb888,2,none⟩) (Kd.R_far (p:=⟨gb888,1,none⟩) (Kd.R_far (p:=⟨gb888,0,none⟩) (Kd.R_types HO883.out BK888.out (by decide)) (fun _ hk => hk.2) (.int .i64 t879)) (fun _ hk => hk.2) (.int .i64 t880)) (fun _ hk => hk.2) (.slice Ao15 t881.length co15)) (fun _ hk => hk.2) (.slice Ao16 t884.length co16)) (fun _ h_ => h_.1))) hb); have n3_:=am_ (Kd.R_below (by (with_reducible repeat (first | apply Kd.R_alloc | apply Kd.R_drewN | apply Kd.R_drew)); exact (Kd.R_mono (Kd.R_far (p:=⟨gb888,3,none⟩) (Kd.R_far (p:=⟨gb888,2,none⟩) (Kd.R_far (p:=⟨gb888,1,none⟩) (Kd.R_far (p:=⟨gb888,0,none⟩) (Kd.R_types HO886.out BK888.out (by decide)) (fun _ hk => hk.2) (.int .i64 t879)) (fun _ hk => hk.2) (.int .i64 t880)) (fun _ hk => hk.2) (.slice Ao15 t881.length co15)) (fun _ hk => hk.2) (.slice Ao16 t884.length co16)) (fun _ h_ => h_.1))) hb); have n4_:=am_ (blk_below (g:=gb878) (o:=.cells #[.int .i64 t869,.int .i64 t870,.slice Ao9 t871.length co9,.slice Ao10 t874.length co10] 36 (0,0)) (bf4_ NB878_888.out NB878_888.out NB878_888.out NB878_888.out BK878.out) hb); have n5_:=am_ (blk_below (g:=gb888) (o:=.cells #[.int .i64 t879,.int .i64 t880,.slice Ao15 t881.length co15,.slice Ao16 t884.length co16] 36 (0,0)) (by (with_reducible repeat (first | refine blk_drewN ?_ _ | refine blk_drew ?_ | refine blk_alloc ?_ _)); refine blk_put (cs:=#[.int .i64 t879,.int .i64 t880,.slice Ao15 t881.length co15,.slice none 0 0]) ?_ 3 _ rfl; (with_reducible repeat (first | refine blk_drewN ?_ _ | refine blk_drew ?_ | refine blk_alloc ?_ _)); refine blk_put (cs:=#[.int .i64 t879,.int .i64 t880,.slice none 0 0,.slice none 0 0]) ?_ 2 _ rfl; (with_reducible repeat (first | refine blk_drewN ?_ _ | refine blk_drew ?_ | refine blk_alloc ?_ _)); refine blk_put (cs:=#[.int .i64 t879,.int .i64 0,.slice none 0 0,.slice none 0 0]) ?_ 1 _ rfl; (with_reducible repeat (first | refine blk_drewN ?_ _ | refine blk_drew ?_ | refine blk_alloc ?_ _)); refine blk_put (cs:=#[.int .i64 0,.int .i64 0,.slice none 0 0,.slice none 0 0]) ?_ 0 _ rfl; (with_reducible repeat (first | refine blk_drewN ?_ _ | refine blk_drew ?_ | refine blk_alloc ?_ _)); exact BK888.out) hb); have n6_:=am_ (below_step (bl2_ HB.out GE878.out GE888.out) hb); clear HO873; clear HO876; clear HO883; clear HO886; clear BK878; clear BK888; clear HB; have HO873:=n0_; have HO876:=n1_; have HO883:=n2_; have HO886:=n3_; have BK878:=n4_; have BK888:=n5_; have HB:=n6_; clear n0_ n1_ n2_ n3_ n4_ n5_ n6_; (try clear hb); (try clear hb2); (try clear hk); (try clear hi)))
    go_meet
    case rel => exact ⟨_,((t887 != t877)),rs_,H',⟨by first | omega | exact Nat.le_refl _⟩,⟨by (with_reducible repeat (first | apply Kd.R_alloc | apply Kd.R_drewN | apply Kd.R_drew)); exact Kd.R_mono HO873.out (fun _ hk => ⟨hk.1.1,⟨hk.1.2,hk.2⟩⟩)⟩,⟨by (with_reducible repeat (first | apply Kd.R_alloc | apply Kd.R_drewN | apply Kd.R_drew)); exact Kd.R_mono HO876.out (fun _ hk => ⟨hk.1.1,⟨hk.1.2,hk.2⟩⟩)⟩,⟨by (with_reducible repeat (first | apply Kd.R_alloc | apply Kd.R_drewN | apply Kd.R_drew)); exact Kd.R_mono HO883.out (fun _ hk => ⟨hk.1.2,⟨hk.2,hk.1.1⟩⟩)⟩,⟨by (with_reducible repeat (first | apply Kd.R_alloc | apply Kd.R_drewN | apply Kd.R_drew)); exact Kd.R_mono HO886.out (fun _ hk => ⟨hk.1.2,⟨hk.2,hk.1.1⟩⟩)⟩,⟨bk_ BK878.out⟩,⟨bk_ BK888.out⟩,⟨bl2_ HB.out GE878.out GE888.out⟩⟩
   ·replace c18:=Bool.eq_false_iff.mpr c18
    subst c18
    have H1:(laws_FnExactFigureOfLoop.j0 k a0 t877 true t869 t870 t871 t874 t879 t880 t881 t884) = some r:=by rw [if_neg (show ¬ (false = true) by decide)] at H; exact H
    clear H
    have H:=H1
    clear H1
    have H':=am_ H
    clear H
    have hnb23:=NB888_878.out
    have hnc23:=NB878_888.out
    have hcz24_0:w12.cell? ⟨gb888,0,none⟩ = some (.int .i64 0):=(bc_ BK888.out 0).trans rfl
    have hcz24_1:w12.cell? ⟨gb888,1,none⟩ = some (.int .i64 0):=(bc_ BK888.out 1).trans rfl
    have hcz24_2:w12.cell? ⟨gb888,2,none⟩ = some (.slice none 0 0):=(bc_ BK888.out 2).trans rfl
    have hcz24_3:w12.cell? ⟨gb888,3,none⟩ = some (.slice none 0 0):=(bc_ BK888.out 3).trans rfl
    have hfz24_0:=bz_ BK888.out 0
    have hfz24_1:=bz_ BK888.out 1
    have hfz24_2:=bz_ BK888.out 2
    have hfz24_3:=bz_ BK888.out 3
    have hcz25_0:w12.cell? ⟨gb878,0,none⟩ = some (.int .i64 t869):=(bc_ BK878.out 0).trans rfl
    have hcz25_1:w12.cell? ⟨gb878,1,none⟩ = some (.int .i64 t870):=(bc_ BK878.out 1).trans rfl
    have hcz25_2:w12.cell? ⟨gb878,2,none⟩ = some (.slice Ao9 t871.length co9):=(bc_ BK878.out 2).trans rfl
    have hcz25_3:w12.cell? ⟨gb878,3,none⟩ = some (.slice Ao10 t874.length co10):=(bc_ BK878.out 3).trans rfl
    have hfz25_0:=bz_ BK878.out 0
    have hfz25_1:=bz_ BK878.out 1
    have hfz25_2:=bz_ BK878.out 2
    have hfz25_3:=bz_ BK878.out 3
    go_wp2_with (first | ((with_reducible refine gate_callee (f:=23) rfl ?_); refine goesL_ (some 26) rfl rfl Tryd.func23 (by kernel_rfl) rfl #[.agg #[.int .i64 t879,.int .i64 t880,.slice Ao15 t881.length co15,.slice Ao16 t884.length co16],.agg #[.int .i64 t869,.int .i64 t870,.slice Ao9 t871.length co9,.slice Ao10 t874.length co10]] rfl ob_ ?_; (with_reducible refine (laws_eqFigure.calls k t879 t880 _ _ t881 _ _ t884 t869 t870 _ _ t871 _ _ t874 false _ ?side1 ?side2 ?side3 ?side4 ?side5 ?side6 ?side7 ?side8 A17.out).mono ?_); (case side1 => refine (Kd.R_reads' (e:=3) (base:=w.heap.size) (ok:=fun k_ => ((some k_ ≠ (.slice Ao16 t884.length co16:Value).ownBlock ∧ some k_ ≠ (.slice Ao9 t871.length co9:Value).ownBlock) ∧ some k_ ≠ (.slice Ao10 t874.length co10:Value).ownBlock)) (n:=t881.length) (c:=co15) ?_).2.2; exact (by (with_reducible repeat (first | apply Kd.R_alloc | apply Kd.R_drewN | apply Kd.R_drew)); exact (Kd.R_mono (Kd.R_far (p:=⟨gb888,3,none⟩) (Kd.R_far (p:=⟨gb888,2,none⟩) (Kd.R_far (p:=⟨gb888,1,none⟩) (Kd.R_far (p:=⟨gb888,0,none⟩) (Kd.R_types HO883.out BK888.out (by decide)) (fun _ hk => hk.2) (.int .i64 t879)) (fun _ hk => hk.2) (.int .i64 t880)) (fun _ hk => hk.2) (.slice Ao15 t881.length co15)) (fun _ hk => hk.2) (.slice Ao16 t884.length co16)) (fun _ h_ => h_.1)))); (case side2 => exact (Kd.R_reads' HO883.out).2.1); (case side3 => refine (Kd.R_reads' (e:=3) (base:=w.heap.size) (ok:=fun k_ => ((some k_ ≠ (.slice Ao15 t881.length co15:Value).ownBlock ∧ some k_ ≠ (.slice Ao9 t871.length co9:Value).ownBlock) ∧ some k_ ≠ (.slice Ao10 t874.length co10:Value).ownBlock)) (n:=t884.length) (c:=co16) ?_).2.2; exact (by (with_reducible repeat (first | apply Kd.R_alloc | apply Kd.R_drewN | apply Kd.R_drew)); exact (Kd.R_mono (Kd.R_far (p:=⟨gb888,3,none⟩) (Kd.R_far (p:=⟨gb888,2,none⟩) (Kd.R_far (p:=⟨gb888,1,none⟩) (Kd.R_far (p:=⟨gb888,0,none⟩) (Kd.R_types HO886.out BK888.out (by decide)) (fun _ hk => hk.2) (.int .i64 t879)) (fun _ hk => hk.2) (.int .i64 t880)) (fun _ hk => hk.2) (.slice Ao15 t881.length co15)) (fun _ hk => hk.2) (.slice Ao16 t884.length co16)) (fun _ h_ => h_.1)))); (case side4 => exact (Kd.R_reads' HO886.out).2.1); (case side5 => refine (Kd.R_reads' (e:=3) (base:=w.heap.size) (ok:=fun k_ => ((some k_ ≠ (.slice Ao10 t874.length co10:Value).ownBlock ∧ some k_ ≠ (.slice Ao15 t881.length co15:Value).ownBlock) ∧ some k_ ≠ (.slice Ao16 t884.length co16:Value).ownBlock)) (n:=t871.length) (c:=co9) ?_).2.2; exact (by (with_reducible repeat (first | apply Kd.R_alloc | apply Kd.R_drewN | apply Kd.R_drew)); exact (Kd.R_mono (Kd.R_far (p:=⟨gb888,3,none⟩) (Kd.R_far (p:=⟨gb888,2,none⟩) (Kd.R_far (p:=⟨gb888,1,none⟩) (Kd.R_far (p:=⟨gb888,0,none⟩) (Kd.R_types HO873.out BK888.out (by decide)) (fun _ hk => hk.2) (.int .i64 t879)) (fun _ hk => hk.2) (.int .i64 t880)) (fun _ hk => hk.2) (.slice Ao15 t881.length co15)) (fun _ hk => hk.2) (.slice Ao16 t884.length co16)) (fun _ h_ => h_.1)))); (case side6 => exact (Kd.R_reads' HO873.out).2.1); (case side7 => refine (Kd.R_reads' (e:=3) (base:=w.heap.size) (ok:=fun k_ => ((some k_ ≠ (.slice Ao9 t871.length co9:Value).ownBlock ∧ some k_ ≠ (.slice Ao15 t881.length co15:Value).ownBlock) ∧ some k_ ≠ (.slice Ao16 t884.length co16:Value).ownBlock)) (n:=t874.length) (c:=co10) ?_).2.2; exact (by (with_reducible repeat (first | apply Kd.R_alloc | apply Kd.R_drewN | apply Kd.R_drew)); exact (Kd.R_mono (Kd.R_far (p:=⟨gb888,3,none⟩) (Kd.R_far (p:=⟨gb888,2,none⟩) (Kd.R_far (p:=⟨gb888,1,none⟩) (Kd.R_far (p:=⟨gb888,0,none⟩) (Kd.R_types HO876.out BK888.out (by decide)) (fun _ hk => hk.2) (.int .i64 t879)) (fun _ hk => hk.2) (.int .i64 t880)) (fun _ hk => hk.2) (.slice Ao15 t881.length co15)) (fun _ hk => hk.2) (.slice Ao16 t884.length co16)) (fun _ h_ => h_.1)))); (case side8 => exact (Kd.R_reads' HO876.out).2.1); rintro e w26 ⟨rfl,hb⟩; refine ⟨_,rfl,?_⟩; have n0_:=am_ (Kd.R_below (by (with_reducible repeat (first | apply Kd.R_alloc | apply Kd.R_drewN | apply Kd.R_drew)); exact (Kd.R_mono (Kd.R_far (p:=⟨gb888,3,none⟩) (Kd.R_far (p:=⟨gb888,2,none⟩) (Kd.R_far (p:=⟨gb888,1,none⟩) (Kd.R_far (p:=⟨gb888,0,none⟩) (Kd.R_types HO873.out BK888.out (by decide)) (fun _ hk => hk.2) (.int .i64 t879)) (fun _ hk => hk.2) (.int .i64 t880)) (fun _ hk => hk.2) (.slice Ao15 t881.length co15)) (fun _ hk => hk.2) (.slice Ao16 t884.length co16)) (fun _ h_ => h_.1))) hb); have n1_:=am_ (Kd.R_below (by (with_reducible repeat (first | apply Kd.R_alloc | apply Kd.R_drewN | apply Kd.R_drew)); exact (Kd.R_mono (Kd.R_far (p:=⟨gb888,3,none⟩) (Kd.R_far (p:=⟨gb888,2,none⟩) (Kd.R_far (p:=⟨gb888,1,none⟩) (Kd.R_far (p:=⟨gb888,0,none⟩) (Kd.R_types HO876.out BK888.out (by decide)) (fun _ hk => hk.2) (.int .i64 t879)) (fun _ hk => hk.2) (.int .i64 t880)) (fun _ hk => hk.2) (.slice Ao15 t881.length co15)) (fun _ hk => hk.2) (.slice Ao16 t884.length co16)) (fun _ h_ => h_.1))) hb); have n2_:=am_ (Kd.R_below (by (with_reducible repeat (first | apply Kd.R_alloc | apply Kd.R_drewN | apply Kd.R_drew)); exact (Kd.R_mono (Kd.R_far (p:=⟨gb888,3,none⟩) (Kd.R_far (p:=⟨gb888,2,none⟩) (Kd.R_far (p:=⟨gb888,1,none⟩) (Kd.R_far (p:=⟨gb888,0,none⟩) (Kd.R_types HO883.out BK888.out (by decide)) (fun _ hk => hk.2) (.int .i64 t879)) (fun _ hk => hk.2) (.int .i64 t880)) (fun _ hk => hk.2) (.slice Ao15 t881.length co15)) (fun _ hk => hk.2) (.slice Ao16 t884.length co16)) (fun _ h_ => h_.1))) hb); have n3_:=am_ (Kd.R_below (by (with_reducible repeat (first | apply Kd.R_alloc | apply Kd.R_drewN | apply Kd.R_drew)); exact (Kd.R_mono (Kd.R_far (p:=⟨gb888,3,none⟩) (Kd.R_far (p:=⟨gb888,2,none⟩) (Kd.R_far (p:=⟨gb888,1,none⟩) (Kd.R_far (p:=⟨gb888,0,none⟩) (Kd.R_types HO886.out BK888.out (by decide)) (fun _ hk => hk.2) (.int .i64 t879)) (fun _ hk => hk.2) (.int .i64 t880)) (fun _ hk => hk.2) (.slice Ao15 t881.length co15)) (fun _ hk => hk.2) (.slice Ao16 t884.length co16)) (fun _ h_ => h_.1))) hb); have n4_:=am_ (blk_below (g:=gb878) (o:=.cells #[.int .i64 t869,.int .i64 t870,.slice Ao9 t871.length co9,.slice Ao10 t874.length co10] 36 (0,0)) (bf4_ NB878_888.out NB878_888.out NB878_888.out NB878_888.out BK878.out) hb); have n5_:=am_ (blk_below (g:=gb888) (o:=.cells #[.int .i64 t879,.int .i64 t880,.slice Ao15 t881.length co15,.slice Ao16 t884.length co16] 36 (0,0)) (by (with_reducible repeat (first | refine blk_drewN ?_ _ | refine blk_drew ?_ | refine blk_alloc ?_ _)); refine blk_put (cs:=#[.int .i64 t879,.int .i64 t880,.slice Ao15 t881.length co15,.slice none 0 0]) ?_ 3 _ rfl; (with_reducible repeat (first | refine blk_drewN ?_ _ | refine blk_drew ?_ | refine blk_alloc ?_ _)); refine blk_put (cs:=#[.int .i64 t879,.int .i64 t880,.slice none 0 0,.slice none 0 0]) ?_ 2 _ rfl; (with_reducible repeat (first | refine blk_drewN ?_ _ | refine blk_drew ?_ | refine blk_alloc ?_ _)); refine blk_put (cs:=#[.int .i64 t879,.int .i64 0,.slice none 0 0,.slice none 0 0]) ?_ 1 _ rfl; (with_reducible repeat (first | refine blk_drewN ?_ _ | refine blk_drew ?_ | refine blk_alloc ?_ _)); refine blk_put (cs:=#[.int .i64 0,.int .i64 0,.slice none 0 0,.slice none 0 0]) ?_ 0 _ rfl; (with_reducible repeat (first | refine blk_drewN ?_ _ | refine blk_drew ?_ | refine blk_alloc ?_ _)); exact BK888.out) hb); have n6_:=am_ (below_step (bl2_ HB.out GE878.out GE888.out) hb); clear HO873; clear HO876; clear HO883; clear HO886; clear BK878; clear BK888; clear HB; have HO873:=n0_; have HO876:=n1_; have HO883:=n2_; have HO886:=n3_; have BK878:=n4_; have BK888:=n5_; have HB:=n6_; clear n0_ n1_ n2_ n3_ n4_ n5_ n6_; (try clear hb); (try clear hb2); (try clear hk); (try clear hi)))
    go_meet
    case rel => exact ⟨_,(true),rs_,H',⟨by first | omega | exact Nat.le_refl _⟩,⟨by (with_reducible repeat (first | apply Kd.R_alloc | apply Kd.R_drewN | apply Kd.R_drew)); exact Kd.R_mono HO873.out (fun _ hk => ⟨hk.1.1,⟨hk.1.2,hk.2⟩⟩)⟩,⟨by (with_reducible repeat (first | apply Kd.R_alloc | apply Kd.R_drewN | apply Kd.R_drew)); exact Kd.R_mono HO876.out (fun _ hk => ⟨hk.1.1,⟨hk.1.2,hk.2⟩⟩)⟩,⟨by (with_reducible repeat (first | apply Kd.R_alloc | apply Kd.R_drewN | apply Kd.R_drew)); exact Kd.R_mono HO883.out (fun _ hk => ⟨hk.1.2,⟨hk.2,hk.1.1⟩⟩)⟩,⟨by (with_reducible repeat (first | apply Kd.R_alloc | apply Kd.R_drewN | apply Kd.R_drew)); exact Kd.R_mono HO886.out (fun _ hk => ⟨hk.1.2,⟨hk.2,hk.1.1⟩⟩)⟩,⟨bk_ BK878.out⟩,⟨bk_ BK888.out⟩,⟨bl2_ HB.out GE878.out GE888.out⟩⟩
  case rest =>
   clear HC5
   try clear c1
   try clear c2
   try clear c2b0
   try clear c2b1
   try clear p2
   try clear c7
   try clear c13
   try clear c18
   try clear c19
   try clear c23
   try clear c26
   try clear hcz14_0
   try clear hcz14_1
   try clear hcz14_2
   try clear hcz14_3
   try clear hcz20_0
   try clear hcz20_1
   try clear hcz20_2
   try clear hcz20_3
   try clear hcz21_0
   try clear hcz21_1
   try clear hcz21_2
   try clear hcz21_3
   try clear hcz24_0
   try clear hcz24_1
   try clear hcz24_2
   try clear hcz24_3
   try clear hcz25_0
   try clear hcz25_1
   try clear hcz25_2
   try clear hcz25_3
   try clear hcz8_0
   try clear hcz8_1
   try clear hcz8_2
   try clear hcz8_3
   try clear hfz14_0
   try clear hfz14_1
   try clear hfz14_2
   try clear hfz14_3
   try clear hfz20_0
   try clear hfz20_1
   try clear hfz20_2
   try clear hfz20_3
   try clear hfz21_0
   try clear hfz21_1
   try clear hfz21_2
   try clear hfz21_3
   try clear hfz24_0
   try clear hfz24_1
   try clear hfz24_2
   try clear hfz24_3
   try clear hfz25_0
   try clear hfz25_1
   try clear hfz25_2
   try clear hfz25_3
   try clear hfz8_0
   try clear hfz8_1
   try clear hfz8_2
   try clear hfz8_3
   obtain ⟨kq,x32_4,rfl,HA,HJ4,HO_879002,HO_879003,HO_889002,HO_889003,BK878,BK888,HB⟩:=hcut
   cases kq with
   | zero => exact absurd HA.out (by simp [laws_FnExactFigureOfLoop.j0])
   | succ kj4 =>
    have H:=HA.out
    clear HA
    simp only [laws_FnExactFigureOfLoop.j0] at H
    by_cases c27:x32_4 = true
    ·subst c27
     have H1:(some false) = some r:=by rw [if_pos rfl] at H; exact H
     clear H
     have H:=H1
     clear H1
     obtain rfl:=Option.some.inj H
     go_wp2
     go_ret
     exact ⟨er_,bl2_ HB.out GE878.out GE888.out⟩
    ·replace c27:=Bool.eq_false_iff.mpr c27
     subst c27
     have H1:((laws_markFigure.f kj4 t879 t880 t881 t884 101).bind fun bt890 => ((laws_heldFigure.f kj4 t879 t880 bt890.2.1 bt890.2.2 101).bind fun t893 => (if t893 < 0 then (some false) else (if t893 = bt890.1 then ((impl_FigureOfLoop.f kj4 a0).bind fun bt894 => ((laws_eqFigure.f kj4 bt894.1 bt894.2.1 bt894.2.2.1 bt894.2.2.2.1 t869 t870 t871 t874).bind fun t904 => (if t904 = true then (laws_FnExactFigureOfLoop.j1 kj4 bt890.1 (bt894.2.2.2.2 != t877) t879 t880 bt890.2.1 bt890.2.2) else (laws_FnExactFigureOfLoop.j1 kj4 bt890.1 true t879 t880 bt890.2.1 bt890.2.2)))) else (some false))))) = some r:=by rw [if_neg (show ¬ (false = true) by decide)] at H; exact H
     clear H
     have H:=H1
     clear H1
     replace H:=bi_ H
     obtain ⟨⟨t890,t891,t892⟩,A280,H⟩:=H
     replace H:((laws_heldFigure.f kj4 t879 t880 t891 t892 101).bind fun t893 => (if t893 < 0 then (some false) else (if t893 = t890 then ((impl_FigureOfLoop.f kj4 a0).bind fun bt894 => ((laws_eqFigure.f kj4 bt894.1 bt894.2.1 bt894.2.2.1 bt894.2.2.2.1 t869 t870 t871 t874).bind fun t904 => (if t904 = true then (laws_FnExactFigureOfLoop.j1 kj4 t890 (bt894.2.2.2.2 != t877) t879 t880 t891 t892) else (laws_FnExactFigureOfLoop.j1 kj4 t890 true t879 t880 t891 t892)))) else (some false)))) = some r:=H
     have A28:=am_ A280
     clear A280
     replace H:=bi_ H
     obtain ⟨t893,A290,H⟩:=H
     replace H:(if t893 < 0 then (some false) else (if t893 = t890 then ((impl_FigureOfLoop.f kj4 a0).bind fun bt894 => ((laws_eqFigure.f kj4 bt894.1 bt894.2.1 bt894.2.2.1 bt894.2.2.2.1 t869 t870 t871 t874).bind fun t904 => (if t904 = true then (laws_FnExactFigureOfLoop.j1 kj4 t890 (bt894.2.2.2.2 != t877) t879 t880 t891 t892) else (laws_FnExactFigureOfLoop.j1 kj4 t890 true t879 t880 t891 t892)))) else (some false))) = some r:=H
     have A29:=am_ A290
     clear A290
     by_cases c30:t893 < 0
     ·rw [if_pos c30] at H
      have c30b0:decide (t893 < 0) = true:=decide_eq_true c30
      clear c30
      obtain rfl:=Option.some.inj H
      have hnb31:=NB888_878.out
      have hnc31:=NB878_888.out
      have hcz32_0:wc.cell? ⟨gb888,0,none⟩ = some (.int .i64 t879):=(bc_ BK888.out 0).trans rfl
      have hcz32_1:wc.cell? ⟨gb888,1,none⟩ = some (.int .i64 t880):=(bc_ BK888.out 1).trans rfl
      have hcz32_2:wc.cell? ⟨gb888,2,none⟩ = some (.slice Ao15 t881.length co15):=(bc_ BK888.out 2).trans rfl
      have hcz32_3:wc.cell? ⟨gb888,3,none⟩ = some (.slice Ao16 t884.length co16):=(bc_ BK888.out 3).trans rfl
      have hfz32_0:=bz_ BK888.out 0
      have hfz32_1:=bz_ BK888.out 1
      have hfz32_2:=bz_ BK888.out 2
      have hfz32_3:=bz_ BK888.out 3
      go_wp2_with (first | ((with_reducible refine gate_callee (f:=24) rfl ?_); refine goesL_ (some 35) rfl rfl Tryd.func24 (by kernel_rfl) rfl #[.agg #[.int .i64 t879,.int .i64 t880,.slice Ao15 t881.length co15,.slice Ao16 t884.length co16],.int .i64 101] rfl ob_ ?_; (with_reducible refine (laws_markFigure.calls kj4 t879 t880 (fun k_ => some k_ = (.slice Ao15 t881.length co15:Value).ownBlock) (.slice Ao15 t881.length co15) t881 (fun k_ => some k_ = (.slice Ao16 t884.length co16:Value).ownBlock) (.slice Ao16 t884.length co16) t884 101 t890 t891 t892 w _ ?side1 ?side2 ?side3 ?side4 ?side5 A28.out).mono ?_); (case side1 => repeat (first | (with_reducible first | exact HB.out | apply below_alloc | apply pw_below_drewN | apply below_drew1 | refine below_set ?_ GE878.out | refine below_set ?_ GE888.out) | exact HB.out)); (case side2 => exact Kd.R_tight rfl HO_889002.out); (case side3 => exact fun k_ e_ => (HO_889002.out.1 k_ e_.symm).2.2); (case side4 => exact Kd.R_tight rfl HO_889003.out); (case side5 => exact fun k_ e_ => (HO_889003.out.1 k_ e_.symm).2.2); rintro e w33 ⟨rfl,hy0,hy1,hb,hkp⟩; refine ⟨_,rfl,?_⟩; have n0_:=am_ (Kd.R_mono (ok':=fun k_ => some k_ ≠ (.slice Ao10 t874.length co10:Value).ownBlock ∧ some k_ ≠ (.slice Ao15 t881.length co15:Value).ownBlock ∧ some k_ ≠ (.slice Ao16 t884.length co16:Value).ownBlock) (Kd.R_keptB (HO_879002.out) hkp (fun k_ hk_ hs_ => Or.elim hs_ (fun e_ => (hk_.2.1) e_) (fun e_ => (hk_.2.2) e_))) (fun k_ hk_ => ⟨hk_.1.1,hk_.1.2.1,hk_.1.2.2⟩)); have n1_:=am_ (Kd.R_mono (ok':=fun k_ => some k_ ≠ (.slice Ao9 t871.length co9:Value).ownBlock ∧ some k_ ≠ (.slice Ao15 t881.length co15:Value).ownBlock ∧ some k_ ≠ (.slice Ao16 t884.length co16:Value).ownBlock) (Kd.R_keptB (HO_879003.out) hkp (fun k_ hk_ hs_ => Or.elim hs_ (fun e_ => (hk_.2.1) e_) (fun e_ => (hk_.2.2) e_))) (fun k_ hk_ => ⟨hk_.1.1,hk_.1.2.1,hk_.1.2.2⟩)); have n2_:=am_ (Kd.R_reok rfl hy0 (fun k_ e_ => HO_889002.out.1 k_ e_)); have n3_:=am_ (Kd.R_reok rfl hy1 (fun k_ e_ => HO_889003.out.1 k_ e_)); have n4_:=am_ (blk_kept (bk_ BK878.out) hkp (fun hs_ => Or.elim hs_ (fun e_ => (fun e_ => (Kd.R_ne HO_889002.out BK878.out (by decide)) e_) e_) (fun e_ => (fun e_ => (Kd.R_ne HO_889003.out BK878.out (by decide)) e_) e_))); have n5_:=am_ (blk_kept (bk_ BK888.out) hkp (fun hs_ => Or.elim hs_ (fun e_ => (fun e_ => (Kd.R_ne HO_889002.out BK888.out (by decide)) e_) e_) (fun e_ => (fun e_ => (Kd.R_ne HO_889003.out BK888.out (by decide)) e_) e_))); have n6_:=am_ (hb); clear HO_879002; clear HO_879003; clear HO_889002; clear HO_889003; clear BK878; clear BK888; clear HB; have HO_879002:=n0_; have HO_879003:=n1_; have HO_889002:=n2_; have HO_889003:=n3_; have BK878:=n4_; have BK888:=n5_; have HB:=n6_; clear n0_ n1_ n2_ n3_ n4_ n5_ n6_; (try clear hb); (try clear hkp); (try clear hy0); (try clear hy1); have hcz34_0:w33.cell? ⟨gb888,0,none⟩ = some (.int .i64 t879):=(bc_ BK888.out 0).trans rfl; have hcz34_1:w33.cell? ⟨gb888,1,none⟩ = some (.int .i64 t880):=(bc_ BK888.out 1).trans rfl; have hcz34_2:w33.cell? ⟨gb888,2,none⟩ = some (.slice Ao15 t881.length co15):=(bc_ BK888.out 2).trans rfl; have hcz34_3:w33.cell? ⟨gb888,3,none⟩ = some (.slice Ao16 t884.length co16):=(bc_ BK888.out 3).trans rfl; have hfz34_0:=bz_ BK888.out 0; have hfz34_1:=bz_ BK888.out 1; have hfz34_2:=bz_ BK888.out 2; have hfz34_3:=bz_ BK888.out 3) | ((with_reducible refine gate_callee (f:=25) rfl ?_); refine goesL_ (some 38) rfl rfl Tryd.func25 (by kernel_rfl) rfl #[.agg #[.int .i64 t879,.int .i64 t880,.slice Ao15 t891.length co15,.slice Ao16 t892.length co16],.int .i64 101] rfl (by (try simp only [List.map_toArray,List.map_cons,List.map_nil]); first | done | (rw [show t891.length = t881.length from (Kd.R_reads' HO_889002.out).1.symm,show t892.length = t884.length from (Kd.R_reads' HO_889003.out).1.symm] <;> rfl) | rfl | (simp only [List.length_drop,List.length_take]; rfl)) ?_; (with_reducible refine (laws_heldFigure.calls kj4 t879 t880 _ _ t891 _ _ t892 101 t893 _ ?side1 ?side2 ?side3 ?side4 A29.out).mono ?_); (case side1 => repeat (first | exact (Kd.R_reads' HO_889002.out).2.2 | (with_reducible refine Kd.C_alloc ?_ _) | (with_reducible refine Kd.C_drewN ?_ _) | (with_reducible refine Kd.C_drew ?_))); (case side2 => rw [show t891.length = t881.length from (Kd.R_reads' HO_889002.out).1.symm]; exact (Kd.R_reads' HO_889002.out).2.1); (case side3 => repeat (first | exact (Kd.R_reads' HO_889003.out).2.2 | (with_reducible refine Kd.C_alloc ?_ _) | (with_reducible refine Kd.C_drewN ?_ _) | (with_reducible refine Kd.C_drew ?_))); (case side4 => rw [show t892.length = t884.length from (Kd.R_reads' HO_889003.out).1.symm]; exact (Kd.R_reads' HO_889003.out).2.1); rintro e w35 ⟨rfl,hb⟩; refine ⟨_,rfl,?_⟩; have n0_:=am_ (Kd.R_below (kr_ HO_879002.out) hb); have n1_:=am_ (Kd.R_below (kr_ HO_879003.out) hb); have n2_:=am_ (Kd.R_below (kr_ HO_889002.out) hb); have n3_:=am_ (Kd.R_below (kr_ HO_889003.out) hb); have n4_:=am_ (bb_ BK878.out hb); have n5_:=am_ (bb_ BK888.out hb); have n6_:=am_ (below_step (bl2_ HB.out GE878.out GE888.out) hb); clear HO_879002; clear HO_879003; clear HO_889002; clear HO_889003; clear BK878; clear BK888; clear HB; have HO_879002:=n0_; have HO_879003:=n1_; have HO_889002:=n2_; have HO_889003:=n3_; have BK878:=n4_; have BK888:=n5_; have HB:=n6_; clear n0_ n1_ n2_ n3_ n4_ n5_ n6_; (try clear hb); (try clear hb2); (try clear hk); (try clear hi)))
      go_ret
      exact ⟨er_,bl2_ HB.out GE878.out GE888.out⟩
     ·rw [if_neg c30] at H
      have c30b0:decide (t893 < 0) = false:=decide_eq_false c30
      clear c30
      by_cases c36:t893 = t890
      ·rw [if_pos c36] at H
       have c36b0:(t893 == t890) = true:=beq_iff_eq.mpr c36
       have c36b1:(t893 != t890) = false:=bne_eq_false_iff_eq.mpr c36
       clear c36
       replace H:=bi_ H
       obtain ⟨⟨t894,t895,t896,t899,t902⟩,A370,H⟩:=H
       replace H:((laws_eqFigure.f kj4 t894 t895 t896 t899 t869 t870 t871 t874).bind fun t904 => (if t904 = true then (laws_FnExactFigureOfLoop.j1 kj4 t890 (t902 != t877) t879 t880 t891 t892) else (laws_FnExactFigureOfLoop.j1 kj4 t890 true t879 t880 t891 t892))) = some r:=H
       have A37:=am_ A370
       clear A370
       have HC38:=am_ H
       clear H
       have hnb39:=NB888_878.out
       have hnc39:=NB878_888.out
       have hcz40_0:wc.cell? ⟨gb888,0,none⟩ = some (.int .i64 t879):=(bc_ BK888.out 0).trans rfl
       have hcz40_1:wc.cell? ⟨gb888,1,none⟩ = some (.int .i64 t880):=(bc_ BK888.out 1).trans rfl
       have hcz40_2:wc.cell? ⟨gb888,2,none⟩ = some (.slice Ao15 t881.length co15):=(bc_ BK888.out 2).trans rfl
       have hcz40_3:wc.cell? ⟨gb888,3,none⟩ = some (.slice Ao16 t884.length co16):=(bc_ BK888.out 3).trans rfl
       have hfz40_0:=bz_ BK888.out 0
       have hfz40_1:=bz_ BK888.out 1
       have hfz40_2:=bz_ BK888.out 2
       have hfz40_3:=bz_ BK888.out 3
       go_upto_region 16 with (first | ((with_reducible refine gate_callee (f:=24) rfl ?_); refine goesL_ (some 35) rfl rfl Tryd.func24 (by kernel_rfl) rfl #[.agg #[.int .i64 t879,.int .i64 t880,.slice Ao15 t881.length co15,.slice Ao16 t884.length co16],.int .i64 101] rfl ob_ ?_; (with_reducible refine (laws_markFigure.calls kj4 t879 t880 (fun k_ => some k_ = (.slice Ao15 t881.length co15:Value).ownBlock) (.slice Ao15 t881.length co15) t881 (fun k_ => some k_ = (.slice Ao16 t884.length co16:Value).ownBlock) (.slice Ao16 t884.length co16) t884 101 t890 t891 t892 w _ ?side1 ?side2 ?side3 ?side4 ?side5 A28.out).mono ?_); (case side1 => repeat (first | (with_reducible first | exact HB.out | apply below_alloc | apply pw_below_drewN | apply below_drew1 | refine below_set ?_ GE878.out | refine below_set ?_ GE888.out) | exact HB.out)); (case side2 => exact Kd.R_tight rfl HO_889002.out); (case side3 => exact fun k_ e_ => (HO_889002.out.1 k_ e_.symm).2.2); (case side4 => exact Kd.R_tight rfl HO_889003.out); (case side5 => exact fun k_ e_ => (HO_889003.out.1 k_ e_.symm).2.2); rintro e w41 ⟨rfl,hy0,hy1,hb,hkp⟩; refine ⟨_,rfl,?_⟩; have n0_:=am_ (Kd.R_mono (ok':=fun k_ => some k_ ≠ (.slice Ao10 t874.length co10:Value).ownBlock ∧ some k_ ≠ (.slice Ao15 t881.length co15:Value).ownBlock ∧ some k_ ≠ (.slice Ao16 t884.length co16:Value).ownBlock) (Kd.R_keptB (HO_879002.out) hkp (fun k_ hk_ hs_ => Or.elim hs_ (fun e_ => (hk_.2.1) e_) (fun e_ => (hk_.2.2) e_))) (fun k_ hk_ => ⟨hk_.1.1,hk_.1.2.1,hk_.1.2.2⟩)); have n1_:=am_ (Kd.R_mono (ok':=fun k_ => some k_ ≠ (.slice Ao9 t871.length co9:Value).ownBlock ∧ some k_ ≠ (.slice Ao15 t881.length co15:Value).ownBlock ∧ some k_ ≠ (.slice Ao16 t884.length co16:Value).ownBlock) (Kd.R_keptB (HO_879003.out) hkp (fun k_ hk_ hs_ => Or.elim hs_ (fun e_ => (hk_.2.1) e_) (fun e_ => (hk_.2.2) e_))) (fun k_ hk_ => ⟨hk_.1.1,hk_.1.2.1,hk_.1.2.2⟩)); have n2_:=am_ (Kd.R_reok rfl hy0 (fun k_ e_ => HO_889002.out.1 k_ e_)); have n3_:=am_ (Kd.R_reok rfl hy1 (fun k_ e_ => HO_889003.out.1 k_ e_)); have n4_:=am_ (blk_kept (bk_ BK878.out) hkp (fun hs_ => Or.elim hs_ (fun e_ => (fun e_ => (Kd.R_ne HO_889002.out BK878.out (by decide)) e_) e_) (fun e_ => (fun e_ => (Kd.R_ne HO_889003.out BK878.out (by decide)) e_) e_))); have n5_:=am_ (blk_kept (bk_ BK888.out) hkp (fun hs_ => Or.elim hs_ (fun e_ => (fun e_ => (Kd.R_ne HO_889002.out BK888.out (by decide)) e_) e_) (fun e_ => (fun e_ => (Kd.R_ne HO_889003.out BK888.out (by decide)) e_) e_))); have n6_:=am_ (hb); clear HO_879002; clear HO_879003; clear HO_889002; clear HO_889003; clear BK878; clear BK888; clear HB; have HO_879002:=n0_; have HO_879003:=n1_; have HO_889002:=n2_; have HO_889003:=n3_; have BK878:=n4_; have BK888:=n5_; have HB:=n6_; clear n0_ n1_ n2_ n3_ n4_ n5_ n6_; (try clear hb); (try clear hkp); (try clear hy0); (try clear hy1); have hcz42_0:w41.cell? ⟨gb888,0,none⟩ = some (.int .i64 t879):=(bc_ BK888.out 0).trans rfl; have hcz42_1:w41.cell? ⟨gb888,1,none⟩ = some (.int .i64 t880):=(bc_ BK888.out 1).trans rfl; have hcz42_2:w41.cell? ⟨gb888,2,none⟩ = some (.slice Ao15 t881.length co15):=(bc_ BK888.out 2).trans rfl; have hcz42_3:w41.cell? ⟨gb888,3,none⟩ = some (.slice Ao16 t884.length co16):=(bc_ BK888.out 3).trans rfl; have hfz42_0:=bz_ BK888.out 0; have hfz42_1:=bz_ BK888.out 1; have hfz42_2:=bz_ BK888.out 2; have hfz42_3:=bz_ BK888.out 3) | ((with_reducible refine gate_callee (f:=25) rfl ?_); refine goesL_ (some 38) rfl rfl Tryd.func25 (by kernel_rfl) rfl #[.agg #[.int .i64 t879,.int .i64 t880,.slice Ao15 t891.length co15,.slice Ao16 t892.length co16],.int .i64 101] rfl (by (try simp only [List.map_toArray,List.map_cons,List.map_nil]); first | done | (rw [show t891.length = t881.length from (Kd.R_reads' HO_889002.out).1.symm,show t892.length = t884.length from (Kd.R_reads' HO_889003.out).1.symm] <;> rfl) | rfl | (simp only [List.length_drop,List.length_take]; rfl)) ?_; (with_reducible refine (laws_heldFigure.calls kj4 t879 t880 _ _ t891 _ _ t892 101 t893 _ ?side1 ?side2 ?side3 ?side4 A29.out).mono ?_); (case side1 => repeat (first | exact (Kd.R_reads' HO_889002.out).2.2 | (with_reducible refine Kd.C_alloc ?_ _) | (with_reducible refine Kd.C_drewN ?_ _) | (with_reducible refine Kd.C_drew ?_))); (case side2 => rw [show t891.length = t881.length from (Kd.R_reads' HO_889002.out).1.symm]; exact (Kd.R_reads' HO_889002.out).2.1); (case side3 => repeat (first | exact (Kd.R_reads' HO_889003.out).2.2 | (with_reducible refine Kd.C_alloc ?_ _) | (with_reducible refine Kd.C_drewN ?_ _) | (with_reducible refine Kd.C_drew ?_))); (case side4 => rw [show t892.length = t884.length from (Kd.R_reads' HO_889003.out).1.symm]; exact (Kd.R_reads' HO_889003.out).2.1); rintro e w43 ⟨rfl,hb⟩; refine ⟨_,rfl,?_⟩; have n0_:=am_ (Kd.R_below (kr_ HO_879002.out) hb); have n1_:=am_ (Kd.R_below (kr_ HO_879003.out) hb); have n2_:=am_ (Kd.R_below (kr_ HO_889002.out) hb); have n3_:=am_ (Kd.R_below (kr_ HO_889003.out) hb); have n4_:=am_ (bb_ BK878.out hb); have n5_:=am_ (bb_ BK888.out hb); have n6_:=am_ (below_step (bl2_ HB.out GE878.out GE888.out) hb); clear HO_879002; clear HO_879003; clear HO_889002; clear HO_889003; clear BK878; clear BK888; clear HB; have HO_879002:=n0_; have HO_879003:=n1_; have HO_889002:=n2_; have HO_889003:=n3_; have BK878:=n4_; have BK888:=n5_; have HB:=n6_; clear n0_ n1_ n2_ n3_ n4_ n5_ n6_; (try clear hb); (try clear hb2); (try clear hk); (try clear hi)) | ((with_reducible refine gate_callee (f:=27) rfl ?_); refine goesL_ (some 46) rfl rfl Tryd.func27 (by kernel_rfl) rfl #[.string a0] rfl ob_ ?_; (with_reducible refine (impl_FigureOfLoop.calls kj4 a0 t894 t895 t896 t899 t902 _ (TB.below HTB.out (bl2_ HB.out GE878.out GE888.out)) A37.out).mono ?_); rintro e w44 ⟨v897,v900,rfl,ho0,ho1,hb⟩; refine ⟨_,rfl,?_⟩; have n0_:=am_ (Kd.R_mono (Kd.R_told (Kd.R_told (Kd.R_old (kr_ HO_879002.out) hb) (Kd.R_base ho0)) (Kd.R_base ho1)) (fun _ h_ => h_.1)); have n1_:=am_ (Kd.R_mono (Kd.R_told (Kd.R_told (Kd.R_old (kr_ HO_879003.out) hb) (Kd.R_base ho0)) (Kd.R_base ho1)) (fun _ h_ => h_.1)); have n2_:=am_ (Kd.R_mono (Kd.R_told (Kd.R_told (Kd.R_old (kr_ HO_889002.out) hb) (Kd.R_base ho0)) (Kd.R_base ho1)) (fun _ h_ => h_.1)); have n3_:=am_ (Kd.R_mono (Kd.R_told (Kd.R_told (Kd.R_old (kr_ HO_889003.out) hb) (Kd.R_base ho0)) (Kd.R_base ho1)) (fun _ h_ => h_.1)); have n4_:=am_ (Kd.R_lower (Kd.R_new' (Kd.R_new' (Kd.R_new' (Kd.R_new' ho0 (Kd.R_lt (kr_ HO_879002.out))) (Kd.R_lt (kr_ HO_879003.out))) (Kd.R_lt (kr_ HO_889002.out))) (Kd.R_lt (kr_ HO_889003.out))) (below_size (bl2_ HB.out GE878.out GE888.out))); have n5_:=am_ (Kd.R_lower (Kd.R_new' (Kd.R_new' (Kd.R_new' (Kd.R_new' ho1 (Kd.R_lt (kr_ HO_879002.out))) (Kd.R_lt (kr_ HO_879003.out))) (Kd.R_lt (kr_ HO_889002.out))) (Kd.R_lt (kr_ HO_889003.out))) (below_size (bl2_ HB.out GE878.out GE888.out))); have n6_:=am_ (bb_ BK878.out hb); have n7_:=am_ (bb_ BK888.out hb); have n8_:=am_ (below_step (bl2_ HB.out GE878.out GE888.out) hb); clear HO_879002; clear HO_879003; clear HO_889002; clear HO_889003; clear BK878; clear BK888; clear HB; have HO_879002:=n0_; have HO_879003:=n1_; have HO_889002:=n2_; have HO_889003:=n3_; have HO898:=n4_; have HO901:=n5_; have BK878:=n6_; have BK888:=n7_; have HB:=n8_; clear n0_ n1_ n2_ n3_ n4_ n5_ n6_ n7_ n8_; (try clear hb); (try clear hb2); (try clear hk); (try clear hi); (try clear ho0); (try clear ho1)) | ((with_reducible refine gate_dst (N:=9) rfl ?_); refine boxE_ (N:=9) (cs:=#[.int .i64 0,.int .i64 0,.slice none 0 0,.slice none 0 0]) (t:=36) ?_; intro gb903 hg w45 hbox hb; have n0_:=am_ (Kd.R_below (kr_ HO_879002.out) hb); have n1_:=am_ (Kd.R_below (kr_ HO_879003.out) hb); have n2_:=am_ (Kd.R_below (kr_ HO_889002.out) hb); have n3_:=am_ (Kd.R_below (kr_ HO_889003.out) hb); have n4_:=am_ (Kd.R_below (kr_ HO898.out) hb); have n5_:=am_ (Kd.R_below (kr_ HO901.out) hb); have n6_:=am_ (bb_ BK878.out hb); have n7_:=am_ (bb_ BK888.out hb); have n8_:=am_ (below_step (bl2_ HB.out GE878.out GE888.out) hb); have n9_:=am_ (hbox); have n10_:=am_ ((bs2_ hg HB.out GE878.out GE888.out:w.heap.size ≤ gb903)); have n11_:=am_ ((bs2_ hg HB.out GE878.out GE888.out:w.heap.size ≤ gb903)); have n12_:=am_ ((nl_ hg BK878.out:gb878 ≠ gb903)); have n13_:=am_ ((ng_ hg BK878.out:gb903 ≠ gb878)); have n14_:=am_ ((nl_ hg BK888.out:gb888 ≠ gb903)); have n15_:=am_ ((ng_ hg BK888.out:gb903 ≠ gb888)); clear HO_879002; clear HO_879003; clear HO_889002; clear HO_889003; clear HO898; clear HO901; clear BK878; clear BK888; clear HB; have HO_879002:=n0_; have HO_879003:=n1_; have HO_889002:=n2_; have HO_889003:=n3_; have HO898:=n4_; have HO901:=n5_; have BK878:=n6_; have BK888:=n7_; have HB:=n8_; have BK903:=n9_; have GW903:=n10_; have GE903:=n11_; have NB878_903:=n12_; have NB903_878:=n13_; have NB888_903:=n14_; have NB903_888:=n15_; clear n0_ n1_ n2_ n3_ n4_ n5_ n6_ n7_ n8_ n9_ n10_ n11_ n12_ n13_ n14_ n15_; clear hb hbox hg; have hnb46:=NB903_878.out; have hnc46:=NB878_903.out; have hnb47:=NB903_888.out; have hnc47:=NB888_903.out; have hcz48_0:w45.cell? ⟨gb903,0,none⟩ = some (.int .i64 0):=(bc_ BK903.out 0).trans rfl; have hcz48_1:w45.cell? ⟨gb903,1,none⟩ = some (.int .i64 0):=(bc_ BK903.out 1).trans rfl; have hcz48_2:w45.cell? ⟨gb903,2,none⟩ = some (.slice none 0 0):=(bc_ BK903.out 2).trans rfl; have hcz48_3:w45.cell? ⟨gb903,3,none⟩ = some (.slice none 0 0):=(bc_ BK903.out 3).trans rfl; have hfz48_0:=bz_ BK903.out 0; have hfz48_1:=bz_ BK903.out 1; have hfz48_2:=bz_ BK903.out 2; have hfz48_3:=bz_ BK903.out 3; obtain ⟨Ao49,co49,eo49⟩:=Kd.R_slice HO898.out; subst eo49; obtain ⟨Ao50,co50,eo50⟩:=Kd.R_slice HO901.out; subst eo50))
       (try simp only [Act.put,List.setIfInBounds_toArray,List.set_cons_zero,List.set_cons_succ])
       go_cut [57] (fun v57 wc => ∃ (kq:Nat) (x57_37:Bool),v57 = .bool x57_37 ∧ Aside0 (laws_FnExactFigureOfLoop.j1 kq t890 x57_37 t879 t880 t891 t892 = some r) ∧ Aside0 (kq ≤ kj4) ∧ Aside0 (Kd.R (Kd.int .i64) 3 wc w.heap.size (fun k_ => some k_ ≠ ((.slice Ao10 t874.length co10):Value).ownBlock ∧ some k_ ≠ ((.slice Ao15 t881.length co15):Value).ownBlock ∧ some k_ ≠ ((.slice Ao16 t884.length co16):Value).ownBlock ∧ some k_ ≠ ((.slice Ao49 t896.length co49):Value).ownBlock ∧ some k_ ≠ ((.slice Ao50 t899.length co50):Value).ownBlock) (.slice Ao9 t871.length co9) t871) ∧ Aside0 (Kd.R (Kd.int .i64) 3 wc w.heap.size (fun k_ => some k_ ≠ ((.slice Ao9 t871.length co9):Value).ownBlock ∧ some k_ ≠ ((.slice Ao15 t881.length co15):Value).ownBlock ∧ some k_ ≠ ((.slice Ao16 t884.length co16):Value).ownBlock ∧ some k_ ≠ ((.slice Ao49 t896.length co49):Value).ownBlock ∧ some k_ ≠ ((.slice Ao50 t899.length co50):Value).ownBlock) (.slice Ao10 t874.length co10) t874) ∧ Aside0 (Kd.R (Kd.int .i64) 3 wc w.heap.size (fun k_ => some k_ ≠ ((.slice Ao9 t871.length co9):Value).ownBlock ∧ some k_ ≠ ((.slice Ao10 t874.length co10):Value).ownBlock ∧ some k_ ≠ ((.slice Ao16 t884.length co16):Value).ownBlock ∧ some k_ ≠ ((.slice Ao49 t896.length co49):Value).ownBlock ∧ some k_ ≠ ((.slice Ao50 t899.length co50):Value).ownBlock) (.slice Ao15 t881.length co15) t891) ∧ Aside0 (Kd.R (Kd.int .i64) 3 wc w.heap.size (fun k_ => some k_ ≠ ((.slice Ao9 t871.length co9):Value).ownBlock ∧ some k_ ≠ ((.slice Ao10 t874.length co10):Value).ownBlock ∧ some k_ ≠ ((.slice Ao15 t881.length co15):Value).ownBlock ∧ some k_ ≠ ((.slice Ao49 t896.length co49):Value).ownBlock ∧ some k_ ≠ ((.slice Ao50 t899.length co50):Value).ownBlock) (.slice Ao16 t884.length co16) t892) ∧ Aside0 (Kd.R (Kd.int .i64) 3 wc w.heap.size (fun k_ => some k_ ≠ ((.slice Ao9 t871.length co9):Value).ownBlock ∧ some k_ ≠ ((.slice Ao10 t874.length co10):Value).ownBlock ∧ some k_ ≠ ((.slice Ao15 t881.length co15):Value).ownBlock ∧ some k_ ≠ ((.slice Ao16 t884.length co16):Value).ownBlock ∧ some k_ ≠ ((.slice Ao50 t899.length co50):Value).ownBlock) (.slice Ao49 t896.length co49) t896) ∧ Aside0 (Kd.R (Kd.int .i64) 3 wc w.heap.size (fun k_ => some k_ ≠ ((.slice Ao9 t871.length co9):Value).ownBlock ∧ some k_ ≠ ((.slice Ao10 t874.length co10):Value).ownBlock ∧ some k_ ≠ ((.slice Ao15 t881.length co15):Value).ownBlock ∧ some k_ ≠ ((.slice Ao16 t884.length co16):Value).ownBlock ∧ some k_ ≠ ((.slice Ao49 t896.length co49):Value).ownBlock) (.slice Ao50 t899.length co50) t899) ∧ Aside0 (wc.heap[gb878]? = some (.cells #[.int .i64 t869,.int .i64 t870,(.slice Ao9 t871.length co9),(.slice Ao10 t874.length co10)] 36 (0,0))) ∧ Aside0 (wc.heap[gb888]? = some (.cells #[.int .i64 t879,.int .i64 t880,(.slice Ao15 t881.length co15),(.slice Ao16 t884.length co16)] 36 (0,0))) ∧ Aside0 (wc.heap[gb903]? = some (.cells #[.int .i64 t894,.int .i64 t895,(.slice Ao49 t896.length co49),(.slice Ao50 t899.length co50)] 36 (0,0))) ∧ Aside0 (Below w.heap.size w wc))
       case first =>
        have H:=HC38.out
        clear HC38
        replace H:=bi_ H
        obtain ⟨t904,A510,H⟩:=H
        replace H:(if t904 = true then (laws_FnExactFigureOfLoop.j1 kj4 t890 (t902 != t877) t879 t880 t891 t892) else (laws_FnExactFigureOfLoop.j1 kj4 t890 true t879 t880 t891 t892)) = some r:=H
        have A51:=am_ A510
        clear A510
        by_cases c52:t904 = true
        ·subst c52
         have H1:(laws_FnExactFigureOfLoop.j1 kj4 t890 (t902 != t877) t879 t880 t891 t892) = some r:=by rw [if_pos rfl] at H; exact H
         clear H
         have H:=H1
         clear H1
         have H':=am_ H
         clear H
         have hnb53:=NB903_878.out
         have hnc53:=NB878_903.out
         have hnb54:=NB903_888.out
         have hnc54:=NB888_903.out
         have hcz55_0:w45.cell? ⟨gb903,0,none⟩ = some (.int .i64 0):=(bc_ BK903.out 0).trans rfl
         have hcz55_1:w45.cell? ⟨gb903,1,none⟩ = some (.int .i64 0):=(bc_ BK903.out 1).trans rfl
         have hcz55_2:w45.cell? ⟨gb903,2,none⟩ = some (.slice none 0 0):=(bc_ BK903.out 2).trans rfl
         have hcz55_3:w45.cell? ⟨gb903,3,none⟩ = some (.slice none 0 0):=(bc_ BK903.out 3).trans rfl
         have hfz55_0:=bz_ BK903.out 0
         have hfz55_1:=bz_ BK903.out 1
         have hfz55_2:=bz_ BK903.out 2
         have hfz55_3:=bz_ BK903.out 3
         have hnb56:=NB878_888.out
         have hnc56:=NB888_878.out
         have hcz57_0:w45.cell? ⟨gb878,0,none⟩ = some (.int .i64 t869):=(bc_ BK878.out 0).trans rfl
         have hcz57_1:w45.cell? ⟨gb878,1,none⟩ = some (.int .i64 t870):=(bc_ BK878.out 1).trans rfl
         have hcz57_2:w45.cell? ⟨gb878,2,none⟩ = some (.slice Ao9 t871.length co9):=(bc_ BK878.out 2).trans rfl
         have hcz57_3:w45.cell? ⟨gb878,3,none⟩ = some (.slice Ao10 t874.length co10):=(bc_ BK878.out 3).trans rfl
         have hfz57_0:=bz_ BK878.out 0
         have hfz57_1:=bz_ BK878.out 1
         have hfz57_2:=bz_ BK878.out 2
         have hfz57_3:=bz_ BK878.out 3
         go_wp2_with (first | ((with_reducible refine gate_callee (f:=23) rfl ?_); refine goesL_ (some 51) rfl rfl Tryd.func23 (by kernel_rfl) rfl #[.agg #[.int .i64 t894,.int .i64 t895,.slice Ao49 t896.length co49,.slice Ao50 t899.length co50],.agg #[.int .i64 t869,.int .i64 t870,.slice Ao9 t871.length co9,.slice Ao10 t874.length co10]] rfl ob_ ?_; (with_reducible refine (laws_eqFigure.calls kj4 t894 t895 _ _ t896 _ _ t899 t869 t870 _ _ t871 _ _ t874 true _ ?side1 ?side2 ?side3 ?side4 ?side5 ?side6 ?side7 ?side8 A51.out).mono ?_); (case side1 => refine (Kd.R_reads' (e:=3) (base:=w.heap.size) (ok:=fun k_ => ((((some k_ ≠ (.slice Ao50 t899.length co50:Value).ownBlock ∧ some k_ ≠ (.slice Ao9 t871.length co9:Value).ownBlock) ∧ some k_ ≠ (.slice Ao10 t874.length co10:Value).ownBlock) ∧ some k_ ≠ (.slice Ao15 t881.length co15:Value).ownBlock) ∧ some k_ ≠ (.slice Ao16 t884.length co16:Value).ownBlock)) (n:=t896.length) (c:=co49) ?_).2.2; exact (by (with_reducible repeat (first | apply Kd.R_alloc | apply Kd.R_drewN | apply Kd.R_drew)); exact (Kd.R_mono (Kd.R_far (p:=⟨gb903,3,none⟩) (Kd.R_far (p:=⟨gb903,2,none⟩) (Kd.R_far (p:=⟨gb903,1,none⟩) (Kd.R_far (p:=⟨gb903,0,none⟩) (Kd.R_types HO898.out BK903.out (by decide)) (fun _ hk => hk.2) (.int .i64 t894)) (fun _ hk => hk.2) (.int .i64 t895)) (fun _ hk => hk.2) (.slice Ao49 t896.length co49)) (fun _ hk => hk.2) (.slice Ao50 t899.length co50)) (fun _ h_ => h_.1)))); (case side2 => exact (Kd.R_reads' HO898.out).2.1); (case side3 => refine (Kd.R_reads' (e:=3) (base:=w.heap.size) (ok:=fun k_ => ((((some k_ ≠ (.slice Ao49 t896.length co49:Value).ownBlock ∧ some k_ ≠ (.slice Ao9 t871.length co9:Value).ownBlock) ∧ some k_ ≠ (.slice Ao10 t874.length co10:Value).ownBlock) ∧ some k_ ≠ (.slice Ao15 t881.length co15:Value).ownBlock) ∧ some k_ ≠ (.slice Ao16 t884.length co16:Value).ownBlock)) (n:=t899.length) (c:=co50) ?_).2.2; exact (by (with_reducible repeat (first | apply Kd.R_alloc | apply Kd.R_drewN | apply Kd.R_drew)); exact (Kd.R_mono (Kd.R_far (p:=⟨gb903,3,none⟩) (Kd.R_far (p:=⟨gb903,2,none⟩) (Kd.R_far (p:=⟨gb903,1,none⟩) (Kd.R_far (p:=⟨gb903,0,none⟩) (Kd.R_types HO901.out BK903.out (by decide)) (fun _ hk => hk.2) (.int .i64 t894)) (fun _ hk => hk.2) (.int .i64 t895)) (fun _ hk => hk.2) (.slice Ao49 t896.length co49)) (fun _ hk => hk.2) (.slice Ao50 t899.length co50)) (fun _ h_ => h_.1)))); (case side4 => exact (Kd.R_reads' HO901.out).2.1); (case side5 => refine (Kd.R_reads' (e:=3) (base:=w.heap.size) (ok:=fun k_ => (((some k_ ≠ (.slice Ao10 t874.length co10:Value).ownBlock ∧ (some k_ ≠ (.slice Ao15 t881.length co15:Value).ownBlock ∧ some k_ ≠ (.slice Ao16 t884.length co16:Value).ownBlock)) ∧ some k_ ≠ (.slice Ao49 t896.length co49:Value).ownBlock) ∧ some k_ ≠ (.slice Ao50 t899.length co50:Value).ownBlock)) (n:=t871.length) (c:=co9) ?_).2.2; exact (by (with_reducible repeat (first | apply Kd.R_alloc | apply Kd.R_drewN | apply Kd.R_drew)); exact (Kd.R_mono (Kd.R_far (p:=⟨gb903,3,none⟩) (Kd.R_far (p:=⟨gb903,2,none⟩) (Kd.R_far (p:=⟨gb903,1,none⟩) (Kd.R_far (p:=⟨gb903,0,none⟩) (Kd.R_types HO_879002.out BK903.out (by decide)) (fun _ hk => hk.2) (.int .i64 t894)) (fun _ hk => hk.2) (.int .i64 t895)) (fun _ hk => hk.2) (.slice Ao49 t896.length co49)) (fun _ hk => hk.2) (.slice Ao50 t899.length co50)) (fun _ h_ => h_.1)))); (case side6 => exact (Kd.R_reads' HO_879002.out).2.1); (case side7 => refine (Kd.R_reads' (e:=3) (base:=w.heap.size) (ok:=fun k_ => (((some k_ ≠ (.slice Ao9 t871.length co9:Value).ownBlock ∧ (some k_ ≠ (.slice Ao15 t881.length co15:Value).ownBlock ∧ some k_ ≠ (.slice Ao16 t884.length co16:Value).ownBlock)) ∧ some k_ ≠ (.slice Ao49 t896.length co49:Value).ownBlock) ∧ some k_ ≠ (.slice Ao50 t899.length co50:Value).ownBlock)) (n:=t874.length) (c:=co10) ?_).2.2; exact (by (with_reducible repeat (first | apply Kd.R_alloc | apply Kd.R_drewN | apply Kd.R_drew)); exact (Kd.R_mono (Kd.R_far (p:=⟨gb903,3,none⟩) (Kd.R_far (p:=⟨gb903,2,none⟩) (Kd.R_far (p:=⟨gb903,1,none⟩) (Kd.R_far (p:=⟨gb903,0,none⟩) (Kd.R_types HO_879003.out BK903.out (by decide)) (fun _ hk => hk.2) (.int .i64 t894)) (fun _ hk => hk.2) (.int .i64 t895)) (fun _ hk => hk.2) (.slice Ao49 t896.length co49)) (fun _ hk => hk.2) (.slice Ao50 t899.length co50)) (fun _ h_ => h_.1)))); (case side8 => exact (Kd.R_reads' HO_879003.out).2.1); rintro e w58 ⟨rfl,hb⟩; refine ⟨_,rfl,?_⟩; have n0_:=am_ (Kd.R_below (by (with_reducible repeat (first | apply Kd.R_alloc | apply Kd.R_drewN | apply Kd.R_drew)); exact (Kd.R_mono (Kd.R_far (p:=⟨gb903,3,none⟩) (Kd.R_far (p:=⟨gb903,2,none⟩) (Kd.R_far (p:=⟨gb903,1,none⟩) (Kd.R_far (p:=⟨gb903,0,none⟩) (Kd.R_types HO_879002.out BK903.out (by decide)) (fun _ hk => hk.2) (.int .i64 t894)) (fun _ hk => hk.2) (.int .i64 t895)) (fun _ hk => hk.2) (.slice Ao49 t896.length co49)) (fun _ hk => hk.2) (.slice Ao50 t899.length co50)) (fun _ h_ => h_.1))) hb); have n1_:=am_ (Kd.R_below (by (with_reducible repeat (first | apply Kd.R_alloc | apply Kd.R_drewN | apply Kd.R_drew)); exact (Kd.R_mono (Kd.R_far (p:=⟨gb903,3,none⟩) (Kd.R_far (p:=⟨gb903,2,none⟩) (Kd.R_far (p:=⟨gb903,1,none⟩) (Kd.R_far (p:=⟨gb903,0,none⟩) (Kd.R_types HO_879003.out BK903.out (by decide)) (fun _ hk => hk.2) (.int .i64 t894)) (fun _ hk => hk.2) (.int .i64 t895)) (fun _ hk => hk.2) (.slice Ao49 t896.length co49)) (fun _ hk => hk.2) (.slice Ao50 t899.length co50)) (fun _ h_ => h_.1))) hb); have n2_:=am_ (Kd.R_below (by (with_reducible repeat (first | apply Kd.R_alloc | apply Kd.R_drewN | apply Kd.R_drew)); exact (Kd.R_mono (Kd.R_far (p:=⟨gb903,3,none⟩) (Kd.R_far (p:=⟨gb903,2,none⟩) (Kd.R_far (p:=⟨gb903,1,none⟩) (Kd.R_far (p:=⟨gb903,0,none⟩) (Kd.R_types HO_889002.out BK903.out (by decide)) (fun _ hk => hk.2) (.int .i64 t894)) (fun _ hk => hk.2) (.int .i64 t895)) (fun _ hk => hk.2) (.slice Ao49 t896.length co49)) (fun _ hk => hk.2) (.slice Ao50 t899.length co50)) (fun _ h_ => h_.1))) hb); have n3_:=am_ (Kd.R_below (by (with_reducible repeat (first | apply Kd.R_alloc | apply Kd.R_drewN | apply Kd.R_drew)); exact (Kd.R_mono (Kd.R_far (p:=⟨gb903,3,none⟩) (Kd.R_far (p:=⟨gb903,2,none⟩) (Kd.R_far (p:=⟨gb903,1,none⟩) (Kd.R_far (p:=⟨gb903,0,none⟩) (Kd.R_types HO_889003.out BK903.out (by decide)) (fun _ hk => hk.2) (.int .i64 t894)) (fun _ hk => hk.2) (.int .i64 t895)) (fun _ hk => hk.2) (.slice Ao49 t896.length co49)) (fun _ hk => hk.2) (.slice Ao50 t899.length co50)) (fun _ h_ => h_.1))) hb); have n4_:=am_ (Kd.R_below (by (with_reducible repeat (first | apply Kd.R_alloc | apply Kd.R_drewN | apply Kd.R_drew)); exact (Kd.R_mono (Kd.R_far (p:=⟨gb903,3,none⟩) (Kd.R_far (p:=⟨gb903,2,none⟩) (Kd.R_far (p:=⟨gb903,1,none⟩) (Kd.R_far (p:=⟨gb903,0,none⟩) (Kd.R_types HO898.out BK903.out (by decide)) (fun _ hk => hk.2) (.int .i64 t894)) (fun _ hk => hk.2) (.int .i64 t895)) (fun _ hk => hk.2) (.slice Ao49 t896.length co49)) (fun _ hk => hk.2) (.slice Ao50 t899.length co50)) (fun _ h_ => h_.1))) hb); have n5_:=am_ (Kd.R_below (by (with_reducible repeat (first | apply Kd.R_alloc | apply Kd.R_drewN | apply Kd.R_drew)); exact (Kd.R_mono (Kd.R_far (p:=⟨gb903,3,none⟩) (Kd.R_far (p:=⟨gb903,2,none⟩) (Kd.R_far (p:=⟨gb903,1,none⟩) (Kd.R_far (p:=⟨gb903,0,none⟩) (Kd.R_types HO901.out BK903.out (by decide)) (fun _ hk => hk.2) (.int .i64 t894)) (fun _ hk => hk.2) (.int .i64 t895)) (fun _ hk => hk.2) (.slice Ao49 t896.length co49)) (fun _ hk => hk.2) (.slice Ao50 t899.length co50)) (fun _ h_ => h_.1))) hb); have n6_:=am_ (blk_below (g:=gb878) (o:=.cells #[.int .i64 t869,.int .i64 t870,.slice Ao9 t871.length co9,.slice Ao10 t874.length co10] 36 (0,0)) (bf4_ NB878_903.out NB878_903.out NB878_903.out NB878_903.out BK878.out) hb); have n7_:=am_ (blk_below (g:=gb888) (o:=.cells #[.int .i64 t879,.int .i64 t880,.slice Ao15 t881.length co15,.slice Ao16 t884.length co16] 36 (0,0)) (bf4_ NB888_903.out NB888_903.out NB888_903.out NB888_903.out BK888.out) hb); have n8_:=am_ (blk_below (g:=gb903) (o:=.cells #[.int .i64 t894,.int .i64 t895,.slice Ao49 t896.length co49,.slice Ao50 t899.length co50] 36 (0,0)) (by (with_reducible repeat (first | refine blk_drewN ?_ _ | refine blk_drew ?_ | refine blk_alloc ?_ _)); refine blk_put (cs:=#[.int .i64 t894,.int .i64 t895,.slice Ao49 t896.length co49,.slice none 0 0]) ?_ 3 _ rfl; (with_reducible repeat (first | refine blk_drewN ?_ _ | refine blk_drew ?_ | refine blk_alloc ?_ _)); refine blk_put (cs:=#[.int .i64 t894,.int .i64 t895,.slice none 0 0,.slice none 0 0]) ?_ 2 _ rfl; (with_reducible repeat (first | refine blk_drewN ?_ _ | refine blk_drew ?_ | refine blk_alloc ?_ _)); refine blk_put (cs:=#[.int .i64 t894,.int .i64 0,.slice none 0 0,.slice none 0 0]) ?_ 1 _ rfl; (with_reducible repeat (first | refine blk_drewN ?_ _ | refine blk_drew ?_ | refine blk_alloc ?_ _)); refine blk_put (cs:=#[.int .i64 0,.int .i64 0,.slice none 0 0,.slice none 0 0]) ?_ 0 _ rfl; (with_reducible repeat (first | refine blk_drewN ?_ _ | refine blk_drew ?_ | refine blk_alloc ?_ _)); exact BK903.out) hb); have n9_:=am_ (below_step (bl3_ HB.out GE878.out GE888.out GE903.out) hb); clear HO_879002; clear HO_879003; clear HO_889002; clear HO_889003; clear HO898; clear HO901; clear BK878; clear BK888; clear BK903; clear HB; have HO_879002:=n0_; have HO_879003:=n1_; have HO_889002:=n2_; have HO_889003:=n3_; have HO898:=n4_; have HO901:=n5_; have BK878:=n6_; have BK888:=n7_; have BK903:=n8_; have HB:=n9_; clear n0_ n1_ n2_ n3_ n4_ n5_ n6_ n7_ n8_ n9_; (try clear hb); (try clear hb2); (try clear hk); (try clear hi)))
         go_meet
         case rel => exact ⟨_,((t902 != t877)),rs_,H',⟨by have:=HJ4.out; first | omega | exact Nat.le_refl _⟩,⟨by (with_reducible repeat (first | apply Kd.R_alloc | apply Kd.R_drewN | apply Kd.R_drew)); exact Kd.R_mono HO_879002.out (fun _ hk => ⟨hk.1.1.1,⟨hk.1.1.2.1,⟨hk.1.1.2.2,⟨hk.1.2,hk.2⟩⟩⟩⟩)⟩,⟨by (with_reducible repeat (first | apply Kd.R_alloc | apply Kd.R_drewN | apply Kd.R_drew)); exact Kd.R_mono HO_879003.out (fun _ hk => ⟨hk.1.1.1,⟨hk.1.1.2.1,⟨hk.1.1.2.2,⟨hk.1.2,hk.2⟩⟩⟩⟩)⟩,⟨by (with_reducible repeat (first | apply Kd.R_alloc | apply Kd.R_drewN | apply Kd.R_drew)); exact Kd.R_mono HO_889002.out (fun _ hk => ⟨hk.1.1.1,⟨hk.1.1.2.1,⟨hk.1.1.2.2,⟨hk.1.2,hk.2⟩⟩⟩⟩)⟩,⟨by (with_reducible repeat (first | apply Kd.R_alloc | apply Kd.R_drewN | apply Kd.R_drew)); exact Kd.R_mono HO_889003.out (fun _ hk => ⟨hk.1.1.1,⟨hk.1.1.2.1,⟨hk.1.1.2.2,⟨hk.1.2,hk.2⟩⟩⟩⟩)⟩,⟨by (with_reducible repeat (first | apply Kd.R_alloc | apply Kd.R_drewN | apply Kd.R_drew)); exact Kd.R_mono HO898.out (fun _ hk => ⟨hk.1.1.1.2,⟨hk.1.1.2,⟨hk.1.2,⟨hk.2,hk.1.1.1.1⟩⟩⟩⟩)⟩,⟨by (with_reducible repeat (first | apply Kd.R_alloc | apply Kd.R_drewN | apply Kd.R_drew)); exact Kd.R_mono HO901.out (fun _ hk => ⟨hk.1.1.1.2,⟨hk.1.1.2,⟨hk.1.2,⟨hk.2,hk.1.1.1.1⟩⟩⟩⟩)⟩,⟨bk_ BK878.out⟩,⟨bk_ BK888.out⟩,⟨bk_ BK903.out⟩,⟨bl3_ HB.out GE878.out GE888.out GE903.out⟩⟩
        ·replace c52:=Bool.eq_false_iff.mpr c52
         subst c52
         have H1:(laws_FnExactFigureOfLoop.j1 kj4 t890 true t879 t880 t891 t892) = some r:=by rw [if_neg (show ¬ (false = true) by decide)] at H; exact H
         clear H
         have H:=H1
         clear H1
         have H':=am_ H
         clear H
         have hnb59:=NB903_878.out
         have hnc59:=NB878_903.out
         have hnb60:=NB903_888.out
         have hnc60:=NB888_903.out
         have hcz61_0:w45.cell? ⟨gb903,0,none⟩ = some (.int .i64 0):=(bc_ BK903.out 0).trans rfl
         have hcz61_1:w45.cell? ⟨gb903,1,none⟩ = some (.int .i64 0):=(bc_ BK903.out 1).trans rfl
         have hcz61_2:w45.cell? ⟨gb903,2,none⟩ = some (.slice none 0 0):=(bc_ BK903.out 2).trans rfl
         have hcz61_3:w45.cell? ⟨gb903,3,none⟩ = some (.slice none 0 0):=(bc_ BK903.out 3).trans rfl
         have hfz61_0:=bz_ BK903.out 0
         have hfz61_1:=bz_ BK903.out 1
         have hfz61_2:=bz_ BK903.out 2
         have hfz61_3:=bz_ BK903.out 3
         have hnb62:=NB878_888.out
         have hnc62:=NB888_878.out
         have hcz63_0:w45.cell? ⟨gb878,0,none⟩ = some (.int .i64 t869):=(bc_ BK878.out 0).trans rfl
         have hcz63_1:w45.cell? ⟨gb878,1,none⟩ = some (.int .i64 t870):=(bc_ BK878.out 1).trans rfl
         have hcz63_2:w45.cell? ⟨gb878,2,none⟩ = some (.slice Ao9 t871.length co9):=(bc_ BK878.out 2).trans rfl
         have hcz63_3:w45.cell? ⟨gb878,3,none⟩ = some (.slice Ao10 t874.length co10):=(bc_ BK878.out 3).trans rfl
         have hfz63_0:=bz_ BK878.out 0
         have hfz63_1:=bz_ BK878.out 1
         have hfz63_2:=bz_ BK878.out 2
         have hfz63_3:=bz_ BK878.out 3
         go_wp2_with (first | ((with_reducible refine gate_callee (f:=23) rfl ?_); refine goesL_ (some 51) rfl rfl Tryd.func23 (by kernel_rfl) rfl #[.agg #[.int .i64 t894,.int .i64 t895,.slice Ao49 t896.length co49,.slice Ao50 t899.length co50],.agg #[.int .i64 t869,.int .i64 t870,.slice Ao9 t871.length co9,.slice Ao10 t874.length co10]] rfl ob_ ?_; (with_reducible refine (laws_eqFigure.calls kj4 t894 t895 _ _ t896 _ _ t899 t869 t870 _ _ t871 _ _ t874 false _ ?side1 ?side2 ?side3 ?side4 ?side5 ?side6 ?side7 ?side8 A51.out).mono ?_); (case side1 => refine (Kd.R_reads' (e:=3) (base:=w.heap.size) (ok:=fun k_ => ((((some k_ ≠ (.slice Ao50 t899.length co50:Value).ownBlock ∧ some k_ ≠ (.slice Ao9 t871.length co9:Value).ownBlock) ∧ some k_ ≠ (.slice Ao10 t874.length co10:Value).ownBlock) ∧ some k_ ≠ (.slice Ao15 t881.length co15:Value).ownBlock) ∧ some k_ ≠ (.slice Ao16 t884.length co16:Value).ownBlock)) (n:=t896.length) (c:=co49) ?_).2.2; exact (by (with_reducible repeat (first | apply Kd.R_alloc | apply Kd.R_drewN | apply Kd.R_drew)); exact (Kd.R_mono (Kd.R_far (p:=⟨gb903,3,none⟩) (Kd.R_far (p:=⟨gb903,2,none⟩) (Kd.R_far (p:=⟨gb903,1,none⟩) (Kd.R_far (p:=⟨gb903,0,none⟩) (Kd.R_types HO898.out BK903.out (by decide)) (fun _ hk => hk.2) (.int .i64 t894)) (fun _ hk => hk.2) (.int .i64 t895)) (fun _ hk => hk.2) (.slice Ao49 t896.length co49)) (fun _ hk => hk.2) (.slice Ao50 t899.length co50)) (fun _ h_ => h_.1)))); (case side2 => exact (Kd.R_reads' HO898.out).2.1); (case side3 => refine (Kd.R_reads' (e:=3) (base:=w.heap.size) (ok:=fun k_ => ((((some k_ ≠ (.slice Ao49 t896.length co49:Value).ownBlock ∧ some k_ ≠ (.slice Ao9 t871.length co9:Value).ownBlock) ∧ some k_ ≠ (.slice Ao10 t874.length co10:Value).ownBlock) ∧ some k_ ≠ (.slice Ao15 t881.length co15:Value).ownBlock) ∧ some k_ ≠ (.slice Ao16 t884.length co16:Value).ownBlock)) (n:=t899.length) (c:=co50) ?_).2.2; exact (by (with_reducible repeat (first | apply Kd.R_alloc | apply Kd.R_drewN | apply Kd.R_drew)); exact (Kd.R_mono (Kd.R_far (p:=⟨gb903,3,none⟩) (Kd.R_far (p:=⟨gb903,2,none⟩) (Kd.R_far (p:=⟨gb903,1,none⟩) (Kd.R_far (p:=⟨gb903,0,none⟩) (Kd.R_types HO901.out BK903.out (by decide)) (fun _ hk => hk.2) (.int .i64 t894)) (fun _ hk => hk.2) (.int .i64 t895)) (fun _ hk => hk.2) (.slice Ao49 t896.length co49)) (fun _ hk => hk.2) (.slice Ao50 t899.length co50)) (fun _ h_ => h_.1)))); (case side4 => exact (Kd.R_reads' HO901.out).2.1); (case side5 => refine (Kd.R_reads' (e:=3) (base:=w.heap.size) (ok:=fun k_ => (((some k_ ≠ (.slice Ao10 t874.length co10:Value).ownBlock ∧ (some k_ ≠ (.slice Ao15 t881.length co15:Value).ownBlock ∧ some k_ ≠ (.slice Ao16 t884.length co16:Value).ownBlock)) ∧ some k_ ≠ (.slice Ao49 t896.length co49:Value).ownBlock) ∧ some k_ ≠ (.slice Ao50 t899.length co50:Value).ownBlock)) (n:=t871.length) (c:=co9) ?_).2.2; exact (by (with_reducible repeat (first | apply Kd.R_alloc | apply Kd.R_drewN | apply Kd.R_drew)); exact (Kd.R_mono (Kd.R_far (p:=⟨gb903,3,none⟩) (Kd.R_far (p:=⟨gb903,2,none⟩) (Kd.R_far (p:=⟨gb903,1,none⟩) (Kd.R_far (p:=⟨gb903,0,none⟩) (Kd.R_types HO_879002.out BK903.out (by decide)) (fun _ hk => hk.2) (.int .i64 t894)) (fun _ hk => hk.2) (.int .i64 t895)) (fun _ hk => hk.2) (.slice Ao49 t896.length co49)) (fun _ hk => hk.2) (.slice Ao50 t899.length co50)) (fun _ h_ => h_.1)))); (case side6 => exact (Kd.R_reads' HO_879002.out).2.1); (case side7 => refine (Kd.R_reads' (e:=3) (base:=w.heap.size) (ok:=fun k_ => (((some k_ ≠ (.slice Ao9 t871.length co9:Value).ownBlock ∧ (some k_ ≠ (.slice Ao15 t881.length co15:Value).ownBlock ∧ some k_ ≠ (.slice Ao16 t884.length co16:Value).ownBlock)) ∧ some k_ ≠ (.slice Ao49 t896.length co49:Value).ownBlock) ∧ some k_ ≠ (.slice Ao50 t899.length co50:Value).ownBlock)) (n:=t874.length) (c:=co10) ?_).2.2; exact (by (with_reducible repeat (first | apply Kd.R_alloc | apply Kd.R_drewN | apply Kd.R_drew)); exact (Kd.R_mono (Kd.R_far (p:=⟨gb903,3,none⟩) (Kd.R_far (p:=⟨gb903,2,none⟩) (Kd.R_far (p:=⟨gb903,1,none⟩) (Kd.R_far (p:=⟨gb903,0,none⟩) (Kd.R_types HO_879003.out BK903.out (by decide)) (fun _ hk => hk.2) (.int .i64 t894)) (fun _ hk => hk.2) (.int .i64 t895)) (fun _ hk => hk.2) (.slice Ao49 t896.length co49)) (fun _ hk => hk.2) (.slice Ao50 t899.length co50)) (fun _ h_ => h_.1)))); (case side8 => exact (Kd.R_reads' HO_879003.out).2.1); rintro e w64 ⟨rfl,hb⟩; refine ⟨_,rfl,?_⟩; have n0_:=am_ (Kd.R_below (by (with_reducible repeat (first | apply Kd.R_alloc | apply Kd.R_drewN | apply Kd.R_drew)); exact (Kd.R_mono (Kd.R_far (p:=⟨gb903,3,none⟩) (Kd.R_far (p:=⟨gb903,2,none⟩) (Kd.R_far (p:=⟨gb903,1,none⟩) (Kd.R_far (p:=⟨gb903,0,none⟩) (Kd.R_types HO_879002.out BK903.out (by decide)) (fun _ hk => hk.2) (.int .i64 t894)) (fun _ hk => hk.2) (.int .i64 t895)) (fun _ hk => hk.2) (.slice Ao49 t896.length co49)) (fun _ hk => hk.2) (.slice Ao50 t899.length co50)) (fun _ h_ => h_.1))) hb); have n1_:=am_ (Kd.R_below (by (with_reducible repeat (first | apply Kd.R_alloc | apply Kd.R_drewN | apply Kd.R_drew)); exact (Kd.R_mono (Kd.R_far (p:=⟨gb903,3,none⟩) (Kd.R_far (p:=⟨gb903,2,none⟩) (Kd.R_far (p:=⟨gb903,1,none⟩) (Kd.R_far (p:=⟨gb903,0,none⟩) (Kd.R_types HO_879003.out BK903.out (by decide)) (fun _ hk => hk.2) (.int .i64 t894)) (fun _ hk => hk.2) (.int .i64 t895)) (fun _ hk => hk.2) (.slice Ao49 t896.length co49)) (fun _ hk => hk.2) (.slice Ao50 t899.length co50)) (fun _ h_ => h_.1))) hb); have n2_:=am_ (Kd.R_below (by (with_reducible repeat (first | apply Kd.R_alloc | apply Kd.R_drewN | apply Kd.R_drew)); exact (Kd.R_mono (Kd.R_far (p:=⟨gb903,3,none⟩) (Kd.R_far (p:=⟨gb903,2,none⟩) (Kd.R_far (p:=⟨gb903,1,none⟩) (Kd.R_far (p:=⟨gb903,0,none⟩) (Kd.R_types HO_889002.out BK903.out (by decide)) (fun _ hk => hk.2) (.int .i64 t894)) (fun _ hk => hk.2) (.int .i64 t895)) (fun _ hk => hk.2) (.slice Ao49 t896.length co49)) (fun _ hk => hk.2) (.slice Ao50 t899.length co50)) (fun _ h_ => h_.1))) hb); have n3_:=am_ (Kd.R_below (by (with_reducible repeat (first | apply Kd.R_alloc | apply Kd.R_drewN | apply Kd.R_drew)); exact (Kd.R_mono (Kd.R_far (p:=⟨gb903,3,none⟩) (Kd.R_far (p:=⟨gb903,2,none⟩) (Kd.R_far (p:=⟨gb903,1,none⟩) (Kd.R_far (p:=⟨gb903,0,none⟩) (Kd.R_types HO_889003.out BK903.out (by decide)) (fun _ hk => hk.2) (.int .i64 t894)) (fun _ hk => hk.2) (.int .i64 t895)) (fun _ hk => hk.2) (.slice Ao49 t896.length co49)) (fun _ hk => hk.2) (.slice Ao50 t899.length co50)) (fun _ h_ => h_.1))) hb); have n4_:=am_ (Kd.R_below (by (with_reducible repeat (first | apply Kd.R_alloc | apply Kd.R_drewN | apply Kd.R_drew)); exact (Kd.R_mono (Kd.R_far (p:=⟨gb903,3,none⟩) (Kd.R_far (p:=⟨gb903,2,none⟩) (Kd.R_far (p:=⟨gb903,1,none⟩) (Kd.R_far (p:=⟨gb903,0,none⟩) (Kd.R_types HO898.out BK903.out (by decide)) (fun _ hk => hk.2) (.int .i64 t894)) (fun _ hk => hk.2) (.int .i64 t895)) (fun _ hk => hk.2) (.slice Ao49 t896.length co49)) (fun _ hk => hk.2) (.slice Ao50 t899.length co50)) (fun _ h_ => h_.1))) hb); have n5_:=am_ (Kd.R_below (by (with_reducible repeat (first | apply Kd.R_alloc | apply Kd.R_drewN | apply Kd.R_drew)); exact (Kd.R_mono (Kd.R_far (p:=⟨gb903,3,none⟩) (Kd.R_far (p:=⟨gb903,2,none⟩) (Kd.R_far (p:=⟨gb903,1,none⟩) (Kd.R_far (p:=⟨gb903,0,none⟩) (Kd.R_types HO901.out BK903.out (by decide)) (fun _ hk => hk.2) (.int .i64 t894)) (fun _ hk => hk.2) (.int .i64 t895)) (fun _ hk => hk.2) (.slice Ao49 t896.length co49)) (fun _ hk => hk.2) (.slice Ao50 t899.length co50)) (fun _ h_ => h_.1))) hb); have n6_:=am_ (blk_below (g:=gb878) (o:=.cells #[.int .i64 t869,.int .i64 t870,.slice Ao9 t871.length co9,.slice Ao10 t874.length co10] 36 (0,0)) (bf4_ NB878_903.out NB878_903.out NB878_903.out NB878_903.out BK878.out) hb); have n7_:=am_ (blk_below (g:=gb888) (o:=.cells #[.int .i64 t879,.int .i64 t880,.slice Ao15 t881.length co15,.slice Ao16 t884.length co16] 36 (0,0)) (bf4_ NB888_903.out NB888_903.out NB888_903.out NB888_903.out BK888.out) hb); have n8_:=am_ (blk_below (g:=gb903) (o:=.cells #[.int .i64 t894,.int .i64 t895,.slice Ao49 t896.length co49,.slice Ao50 t899.length co50] 36 (0,0)) (by (with_reducible repeat (first | refine blk_drewN ?_ _ | refine blk_drew ?_ | refine blk_alloc ?_ _)); refine blk_put (cs:=#[.int .i64 t894,.int .i64 t895,.slice Ao49 t896.length co49,.slice none 0 0]) ?_ 3 _ rfl; (with_reducible repeat (first | refine blk_drewN ?_ _ | refine blk_drew ?_ | refine blk_alloc ?_ _)); refine blk_put (cs:=#[.int .i64 t894,.int .i64 t895,.slice none 0 0,.slice none 0 0]) ?_ 2 _ rfl; (with_reducible repeat (first | refine blk_drewN ?_ _ | refine blk_drew ?_ | refine blk_alloc ?_ _)); refine blk_put (cs:=#[.int .i64 t894,.int .i64 0,.slice none 0 0,.slice none 0 0]) ?_ 1 _ rfl; (with_reducible repeat (first | refine blk_drewN ?_ _ | refine blk_drew ?_ | refine blk_alloc ?_ _)); refine blk_put (cs:=#[.int .i64 0,.int .i64 0,.slice none 0 0,.slice none 0 0]) ?_ 0 _ rfl; (with_reducible repeat (first | refine blk_drewN ?_ _ | refine blk_drew ?_ | refine blk_alloc ?_ _)); exact BK903.out) hb); have n9_:=am_ (below_step (bl3_ HB.out GE878.out GE888.out GE903.out) hb); clear HO_879002; clear HO_879003; clear HO_889002; clear HO_889003; clear HO898; clear HO901; clear BK878; clear BK888; clear BK903; clear HB; have HO_879002:=n0_; have HO_879003:=n1_; have HO_889002:=n2_; have HO_889003:=n3_; have HO898:=n4_; have HO901:=n5_; have BK878:=n6_; have BK888:=n7_; have BK903:=n8_; have HB:=n9_; clear n0_ n1_ n2_ n3_ n4_ n5_ n6_ n7_ n8_ n9_; (try clear hb); (try clear hb2); (try clear hk); (try clear hi)))
         go_meet
         case rel => exact ⟨_,(true),rs_,H',⟨by have:=HJ4.out; first | omega | exact Nat.le_refl _⟩,⟨by (with_reducible repeat (first | apply Kd.R_alloc | apply Kd.R_drewN | apply Kd.R_drew)); exact Kd.R_mono HO_879002.out (fun _ hk => ⟨hk.1.1.1,⟨hk.1.1.2.1,⟨hk.1.1.2.2,⟨hk.1.2,hk.2⟩⟩⟩⟩)⟩,⟨by (with_reducible repeat (first | apply Kd.R_alloc | apply Kd.R_drewN | apply Kd.R_drew)); exact Kd.R_mono HO_879003.out (fun _ hk => ⟨hk.1.1.1,⟨hk.1.1.2.1,⟨hk.1.1.2.2,⟨hk.1.2,hk.2⟩⟩⟩⟩)⟩,⟨by (with_reducible repeat (first | apply Kd.R_alloc | apply Kd.R_drewN | apply Kd.R_drew)); exact Kd.R_mono HO_889002.out (fun _ hk => ⟨hk.1.1.1,⟨hk.1.1.2.1,⟨hk.1.1.2.2,⟨hk.1.2,hk.2⟩⟩⟩⟩)⟩,⟨by (with_reducible repeat (first | apply Kd.R_alloc | apply Kd.R_drewN | apply Kd.R_drew)); exact Kd.R_mono HO_889003.out (fun _ hk => ⟨hk.1.1.1,⟨hk.1.1.2.1,⟨hk.1.1.2.2,⟨hk.1.2,hk.2⟩⟩⟩⟩)⟩,⟨by (with_reducible repeat (first | apply Kd.R_alloc | apply Kd.R_drewN | apply Kd.R_drew)); exact Kd.R_mono HO898.out (fun _ hk => ⟨hk.1.1.1.2,⟨hk.1.1.2,⟨hk.1.2,⟨hk.2,hk.1.1.1.1⟩⟩⟩⟩)⟩,⟨by (with_reducible repeat (first | apply Kd.R_alloc | apply Kd.R_drewN | apply Kd.R_drew)); exact Kd.R_mono HO901.out (fun _ hk => ⟨hk.1.1.1.2,⟨hk.1.1.2,⟨hk.1.2,⟨hk.2,hk.1.1.1.1⟩⟩⟩⟩)⟩,⟨bk_ BK878.out⟩,⟨bk_ BK888.out⟩,⟨bk_ BK903.out⟩,⟨bl3_ HB.out GE878.out GE888.out GE903.out⟩⟩
       case rest =>
        clear HC38
        try clear c1
        try clear c2
        try clear c2b0
        try clear c2b1
        try clear p2
        try clear c3
        try clear c4
        try clear c5
        try clear c6
        try clear c7
        try clear c13
        try clear c18
        try clear c19
        try clear c23
        try clear c24
        try clear c25
        try clear c26
        try clear c27
        try clear c30
        try clear c30b0
        try clear c31
        try clear c36
        try clear c36b0
        try clear c36b1
        try clear c39
        try clear c46
        try clear c47
        try clear c52
        try clear c53
        try clear c54
        try clear c56
        try clear c59
        try clear c60
        try clear c62
        try clear hcz14_0
        try clear hcz14_1
        try clear hcz14_2
        try clear hcz14_3
        try clear hcz20_0
        try clear hcz20_1
        try clear hcz20_2
        try clear hcz20_3
        try clear hcz21_0
        try clear hcz21_1
        try clear hcz21_2
        try clear hcz21_3
        try clear hcz24_0
        try clear hcz24_1
        try clear hcz24_2
        try clear hcz24_3
        try clear hcz25_0
        try clear hcz25_1
        try clear hcz25_2
        try clear hcz25_3
        try clear hcz32_0
        try clear hcz32_1
        try clear hcz32_2
        try clear hcz32_3
        try clear hcz34_0
        try clear hcz34_1
        try clear hcz34_2
        try clear hcz34_3
        try clear hcz40_0
        try clear hcz40_1
        try clear hcz40_2
        try clear hcz40_3
        try clear hcz42_0
        try clear hcz42_1
        try clear hcz42_2
        try clear hcz42_3
        try clear hcz48_0
        try clear hcz48_1
        try clear hcz48_2
        try clear hcz48_3
        try clear hcz55_0
        try clear hcz55_1
        try clear hcz55_2
        try clear hcz55_3
        try clear hcz57_0
        try clear hcz57_1
        try clear hcz57_2
        try clear hcz57_3
        try clear hcz61_0
        try clear hcz61_1
        try clear hcz61_2
        try clear hcz61_3
        try clear hcz63_0
        try clear hcz63_1
        try clear hcz63_2
        try clear hcz63_3
        try clear hcz8_0
        try clear hcz8_1
        try clear hcz8_2
        try clear hcz8_3
        try clear hfz14_0
        try clear hfz14_1
        try clear hfz14_2
        try clear hfz14_3
        try clear hfz20_0
        try clear hfz20_1
        try clear hfz20_2
        try clear hfz20_3
        try clear hfz21_0
        try clear hfz21_1
        try clear hfz21_2
        try clear hfz21_3
        try clear hfz24_0
        try clear hfz24_1
        try clear hfz24_2
        try clear hfz24_3
        try clear hfz25_0
        try clear hfz25_1
        try clear hfz25_2
        try clear hfz25_3
        try clear hfz32_0
        try clear hfz32_1
        try clear hfz32_2
        try clear hfz32_3
        try clear hfz34_0
        try clear hfz34_1
        try clear hfz34_2
        try clear hfz34_3
        try clear hfz40_0
        try clear hfz40_1
        try clear hfz40_2
        try clear hfz40_3
        try clear hfz42_0
        try clear hfz42_1
        try clear hfz42_2
        try clear hfz42_3
        try clear hfz48_0
        try clear hfz48_1
        try clear hfz48_2
        try clear hfz48_3
        try clear hfz55_0
        try clear hfz55_1
        try clear hfz55_2
        try clear hfz55_3
        try clear hfz57_0
        try clear hfz57_1
        try clear hfz57_2
        try clear hfz57_3
        try clear hfz61_0
        try clear hfz61_1
        try clear hfz61_2
        try clear hfz61_3
        try clear hfz63_0
        try clear hfz63_1
        try clear hfz63_2
        try clear hfz63_3
        try clear hfz8_0
        try clear hfz8_1
        try clear hfz8_2
        try clear hfz8_3
        try clear p2
        obtain ⟨kq,x57_37,rfl,HA,HJ37,HO_879002,HO_879003,HO_889002,HO_889003,HO_904002,HO_904003,BK878,BK888,BK903,HB⟩:=hcut
        have hl889002_37:=(Kd.R_reads' HO_889002.out).1
        rw [hl889002_37] at HO_889002
        (try simp only [hl889002_37])
        (try simp only [hl889002_37] at BK878)
        (try simp only [hl889002_37] at BK888)
        (try simp only [hl889002_37] at BK903)
        (try simp only [hl889002_37] at HO_879002)
        (try simp only [hl889002_37] at HO_879003)
        (try simp only [hl889002_37] at HO_889003)
        (try simp only [hl889002_37] at HO_904002)
        (try simp only [hl889002_37] at HO_904003)
        have hl889003_37:=(Kd.R_reads' HO_889003.out).1
        rw [hl889003_37] at HO_889003
        (try simp only [hl889003_37])
        (try simp only [hl889003_37] at BK878)
        (try simp only [hl889003_37] at BK888)
        (try simp only [hl889003_37] at BK903)
        (try simp only [hl889003_37] at HO_879002)
        (try simp only [hl889003_37] at HO_879003)
        (try simp only [hl889003_37] at HO_889002)
        (try simp only [hl889003_37] at HO_904002)
        (try simp only [hl889003_37] at HO_904003)
        cases kq with
        | zero => exact absurd HA.out (by simp [laws_FnExactFigureOfLoop.j1])
        | succ kj37 =>
         have H:=HA.out
         clear HA
         simp only [laws_FnExactFigureOfLoop.j1] at H
         by_cases c65:x57_37 = true
         ·subst c65
          have H1:(some false) = some r:=by rw [if_pos rfl] at H; exact H
          clear H
          have H:=H1
          clear H1
          obtain rfl:=Option.some.inj H
          go_wp2
          go_ret
          exact ⟨er_,bl3_ HB.out GE878.out GE888.out GE903.out⟩
         ·replace c65:=Bool.eq_false_iff.mpr c65
          subst c65
          have H1:((laws_heldFigure.f kj37 t879 t880 t891 t892 101).bind fun t905 => (if t905 < 0 then (some false) else (if t905 = t890 then (some true) else (some false)))) = some r:=by rw [if_neg (show ¬ (false = true) by decide)] at H; exact H
          clear H
          have H:=H1
          clear H1
          replace H:=bi_ H
          obtain ⟨t905,A660,H⟩:=H
          replace H:(if t905 < 0 then (some false) else (if t905 = t890 then (some true) else (some false))) = some r:=H
          have A66:=am_ A660
          clear A660
          by_cases c67:t905 < 0
          ·rw [if_pos c67] at H
           have c67b0:decide (t905 < 0) = true:=decide_eq_true c67
           clear c67
           obtain rfl:=Option.some.inj H
           have hnb68:=NB888_878.out
           have hnc68:=NB878_888.out
           have hnb69:=NB888_903.out
           have hnc69:=NB903_888.out
           have hcz70_0:wc.cell? ⟨gb888,0,none⟩ = some (.int .i64 t879):=(bc_ BK888.out 0).trans rfl
           have hcz70_1:wc.cell? ⟨gb888,1,none⟩ = some (.int .i64 t880):=(bc_ BK888.out 1).trans rfl
           have hcz70_2:wc.cell? ⟨gb888,2,none⟩ = some (.slice Ao15 t891.length co15):=(bc_ BK888.out 2).trans rfl
           have hcz70_3:wc.cell? ⟨gb888,3,none⟩ = some (.slice Ao16 t892.length co16):=(bc_ BK888.out 3).trans rfl
           have hfz70_0:=bz_ BK888.out 0
           have hfz70_1:=bz_ BK888.out 1
           have hfz70_2:=bz_ BK888.out 2
           have hfz70_3:=bz_ BK888.out 3
           go_wp2_with (first | ((with_reducible refine gate_callee (f:=25) rfl ?_); refine goesL_ (some 60) rfl rfl Tryd.func25 (by kernel_rfl) rfl #[.agg #[.int .i64 t879,.int .i64 t880,.slice Ao15 t891.length co15,.slice Ao16 t892.length co16],.int .i64 101] rfl ob_ ?_; (with_reducible refine (laws_heldFigure.calls kj37 t879 t880 _ _ t891 _ _ t892 101 t905 _ ?side1 ?side2 ?side3 ?side4 A66.out).mono ?_); (case side1 => repeat (first | exact (Kd.R_reads' HO_889002.out).2.2 | (with_reducible refine Kd.C_alloc ?_ _) | (with_reducible refine Kd.C_drewN ?_ _) | (with_reducible refine Kd.C_drew ?_))); (case side2 => exact (Kd.R_reads' HO_889002.out).2.1); (case side3 => repeat (first | exact (Kd.R_reads' HO_889003.out).2.2 | (with_reducible refine Kd.C_alloc ?_ _) | (with_reducible refine Kd.C_drewN ?_ _) | (with_reducible refine Kd.C_drew ?_))); (case side4 => exact (Kd.R_reads' HO_889003.out).2.1); rintro e w71 ⟨rfl,hb⟩; refine ⟨_,rfl,?_⟩; have n0_:=am_ (Kd.R_below (kr_ HO_879002.out) hb); have n1_:=am_ (Kd.R_below (kr_ HO_879003.out) hb); have n2_:=am_ (Kd.R_below (kr_ HO_889002.out) hb); have n3_:=am_ (Kd.R_below (kr_ HO_889003.out) hb); have n4_:=am_ (Kd.R_below (kr_ HO_904002.out) hb); have n5_:=am_ (Kd.R_below (kr_ HO_904003.out) hb); have n6_:=am_ (bb_ BK878.out hb); have n7_:=am_ (bb_ BK888.out hb); have n8_:=am_ (bb_ BK903.out hb); have n9_:=am_ (below_step (bl3_ HB.out GE878.out GE888.out GE903.out) hb); clear HO_879002; clear HO_879003; clear HO_889002; clear HO_889003; clear HO_904002; clear HO_904003; clear BK878; clear BK888; clear BK903; clear HB; have HO_879002:=n0_; have HO_879003:=n1_; have HO_889002:=n2_; have HO_889003:=n3_; have HO_904002:=n4_; have HO_904003:=n5_; have BK878:=n6_; have BK888:=n7_; have BK903:=n8_; have HB:=n9_; clear n0_ n1_ n2_ n3_ n4_ n5_ n6_ n7_ n8_ n9_; (try clear hb); (try clear hb2); (try clear hk); (try clear hi)))
           go_ret
           exact ⟨er_,bl3_ HB.out GE878.out GE888.out GE903.out⟩
          ·rw [if_neg c67] at H
           have c67b0:decide (t905 < 0) = false:=decide_eq_false c67
           clear c67
           by_cases c72:t905 = t890
           ·rw [if_pos c72] at H
            have c72b0:(t905 == t890) = true:=beq_iff_eq.mpr c72
            have c72b1:(t905 != t890) = false:=bne_eq_false_iff_eq.mpr c72
            clear c72
            obtain rfl:=Option.some.inj H
            have hnb73:=NB888_878.out
            have hnc73:=NB878_888.out
            have hnb74:=NB888_903.out
            have hnc74:=NB903_888.out
            have hcz75_0:wc.cell? ⟨gb888,0,none⟩ = some (.int .i64 t879):=(bc_ BK888.out 0).trans rfl
            have hcz75_1:wc.cell? ⟨gb888,1,none⟩ = some (.int .i64 t880):=(bc_ BK888.out 1).trans rfl
            have hcz75_2:wc.cell? ⟨gb888,2,none⟩ = some (.slice Ao15 t891.length co15):=(bc_ BK888.out 2).trans rfl
            have hcz75_3:wc.cell? ⟨gb888,3,none⟩ = some (.slice Ao16 t892.length co16):=(bc_ BK888.out 3).trans rfl
            have hfz75_0:=bz_ BK888.out 0
            have hfz75_1:=bz_ BK888.out 1
            have hfz75_2:=bz_ BK888.out 2
            have hfz75_3:=bz_ BK888.out 3
            go_wp2_with (first | ((with_reducible refine gate_callee (f:=25) rfl ?_); refine goesL_ (some 60) rfl rfl Tryd.func25 (by kernel_rfl) rfl #[.agg #[.int .i64 t879,.int .i64 t880,.slice Ao15 t891.length co15,.slice Ao16 t892.length co16],.int .i64 101] rfl ob_ ?_; (with_reducible refine (laws_heldFigure.calls kj37 t879 t880 _ _ t891 _ _ t892 101 t905 _ ?side1 ?side2 ?side3 ?side4 A66.out).mono ?_); (case side1 => repeat (first | exact (Kd.R_reads' HO_889002.out).2.2 | (with_reducible refine Kd.C_alloc ?_ _) | (with_reducible refine Kd.C_drewN ?_ _) | (with_reducible refine Kd.C_drew ?_))); (case side2 => exact (Kd.R_reads' HO_889002.out).2.1); (case side3 => repeat (first | exact (Kd.R_reads' HO_889003.out).2.2 | (with_reducible refine Kd.C_alloc ?_ _) | (with_reducible refine Kd.C_drewN ?_ _) | (with_reducible refine Kd.C_drew ?_))); (case side4 => exact (Kd.R_reads' HO_889003.out).2.1); rintro e w76 ⟨rfl,hb⟩; refine ⟨_,rfl,?_⟩; have n0_:=am_ (Kd.R_below (kr_ HO_879002.out) hb); have n1_:=am_ (Kd.R_below (kr_ HO_879003.out) hb); have n2_:=am_ (Kd.R_below (kr_ HO_889002.out) hb); have n3_:=am_ (Kd.R_below (kr_ HO_889003.out) hb); have n4_:=am_ (Kd.R_below (kr_ HO_904002.out) hb); have n5_:=am_ (Kd.R_below (kr_ HO_904003.out) hb); have n6_:=am_ (bb_ BK878.out hb); have n7_:=am_ (bb_ BK888.out hb); have n8_:=am_ (bb_ BK903.out hb); have n9_:=am_ (below_step (bl3_ HB.out GE878.out GE888.out GE903.out) hb); clear HO_879002; clear HO_879003; clear HO_889002; clear HO_889003; clear HO_904002; clear HO_904003; clear BK878; clear BK888; clear BK903; clear HB; have HO_879002:=n0_; have HO_879003:=n1_; have HO_889002:=n2_; have HO_889003:=n3_; have HO_904002:=n4_; have HO_904003:=n5_; have BK878:=n6_; have BK888:=n7_; have BK903:=n8_; have HB:=n9_; clear n0_ n1_ n2_ n3_ n4_ n5_ n6_ n7_ n8_ n9_; (try clear hb); (try clear hb2); (try clear hk); (try clear hi)))
            go_ret
            exact ⟨er_,bl3_ HB.out GE878.out GE888.out GE903.out⟩
           ·rw [if_neg c72] at H
            have c72b0:(t905 == t890) = false:=beq_eq_false_iff_ne.mpr c72
            have c72b1:(t905 != t890) = true:=bne_iff_ne.mpr c72
            obtain rfl:=Option.some.inj H
            have hnb77:=NB888_878.out
            have hnc77:=NB878_888.out
            have hnb78:=NB888_903.out
            have hnc78:=NB903_888.out
            have hcz79_0:wc.cell? ⟨gb888,0,none⟩ = some (.int .i64 t879):=(bc_ BK888.out 0).trans rfl
            have hcz79_1:wc.cell? ⟨gb888,1,none⟩ = some (.int .i64 t880):=(bc_ BK888.out 1).trans rfl
            have hcz79_2:wc.cell? ⟨gb888,2,none⟩ = some (.slice Ao15 t891.length co15):=(bc_ BK888.out 2).trans rfl
            have hcz79_3:wc.cell? ⟨gb888,3,none⟩ = some (.slice Ao16 t892.length co16):=(bc_ BK888.out 3).trans rfl
            have hfz79_0:=bz_ BK888.out 0
            have hfz79_1:=bz_ BK888.out 1
            have hfz79_2:=bz_ BK888.out 2
            have hfz79_3:=bz_ BK888.out 3
            go_wp2_with (first | ((with_reducible refine gate_callee (f:=25) rfl ?_); refine goesL_ (some 60) rfl rfl Tryd.func25 (by kernel_rfl) rfl #[.agg #[.int .i64 t879,.int .i64 t880,.slice Ao15 t891.length co15,.slice Ao16 t892.length co16],.int .i64 101] rfl ob_ ?_; (with_reducible refine (laws_heldFigure.calls kj37 t879 t880 _ _ t891 _ _ t892 101 t905 _ ?side1 ?side2 ?side3 ?side4 A66.out).mono ?_); (case side1 => repeat (first | exact (Kd.R_reads' HO_889002.out).2.2 | (with_reducible refine Kd.C_alloc ?_ _) | (with_reducible refine Kd.C_drewN ?_ _) | (with_reducible refine Kd.C_drew ?_))); (case side2 => exact (Kd.R_reads' HO_889002.out).2.1); (case side3 => repeat (first | exact (Kd.R_reads' HO_889003.out).2.2 | (with_reducible refine Kd.C_alloc ?_ _) | (with_reducible refine Kd.C_drewN ?_ _) | (with_reducible refine Kd.C_drew ?_))); (case side4 => exact (Kd.R_reads' HO_889003.out).2.1); rintro e w80 ⟨rfl,hb⟩; refine ⟨_,rfl,?_⟩; have n0_:=am_ (Kd.R_below (kr_ HO_879002.out) hb); have n1_:=am_ (Kd.R_below (kr_ HO_879003.out) hb); have n2_:=am_ (Kd.R_below (kr_ HO_889002.out) hb); have n3_:=am_ (Kd.R_below (kr_ HO_889003.out) hb); have n4_:=am_ (Kd.R_below (kr_ HO_904002.out) hb); have n5_:=am_ (Kd.R_below (kr_ HO_904003.out) hb); have n6_:=am_ (bb_ BK878.out hb); have n7_:=am_ (bb_ BK888.out hb); have n8_:=am_ (bb_ BK903.out hb); have n9_:=am_ (below_step (bl3_ HB.out GE878.out GE888.out GE903.out) hb); clear HO_879002; clear HO_879003; clear HO_889002; clear HO_889003; clear HO_904002; clear HO_904003; clear BK878; clear BK888; clear BK903; clear HB; have HO_879002:=n0_; have HO_879003:=n1_; have HO_889002:=n2_; have HO_889003:=n3_; have HO_904002:=n4_; have HO_904003:=n5_; have BK878:=n6_; have BK888:=n7_; have BK903:=n8_; have HB:=n9_; clear n0_ n1_ n2_ n3_ n4_ n5_ n6_ n7_ n8_ n9_; (try clear hb); (try clear hb2); (try clear hk); (try clear hi)))
            go_ret
            exact ⟨er_,bl3_ HB.out GE878.out GE888.out GE903.out⟩
      ·rw [if_neg c36] at H
       have c36b0:(t893 == t890) = false:=beq_eq_false_iff_ne.mpr c36
       have c36b1:(t893 != t890) = true:=bne_iff_ne.mpr c36
       obtain rfl:=Option.some.inj H
       have hnb81:=NB888_878.out
       have hnc81:=NB878_888.out
       have hcz82_0:wc.cell? ⟨gb888,0,none⟩ = some (.int .i64 t879):=(bc_ BK888.out 0).trans rfl
       have hcz82_1:wc.cell? ⟨gb888,1,none⟩ = some (.int .i64 t880):=(bc_ BK888.out 1).trans rfl
       have hcz82_2:wc.cell? ⟨gb888,2,none⟩ = some (.slice Ao15 t881.length co15):=(bc_ BK888.out 2).trans rfl
       have hcz82_3:wc.cell? ⟨gb888,3,none⟩ = some (.slice Ao16 t884.length co16):=(bc_ BK888.out 3).trans rfl
       have hfz82_0:=bz_ BK888.out 0
       have hfz82_1:=bz_ BK888.out 1
       have hfz82_2:=bz_ BK888.out 2
       have hfz82_3:=bz_ BK888.out 3
       go_wp2_with (first | ((with_reducible refine gate_callee (f:=24) rfl ?_); refine goesL_ (some 35) rfl rfl Tryd.func24 (by kernel_rfl) rfl #[.agg #[.int .i64 t879,.int .i64 t880,.slice Ao15 t881.length co15,.slice Ao16 t884.length co16],.int .i64 101] rfl ob_ ?_; (with_reducible refine (laws_markFigure.calls kj4 t879 t880 (fun k_ => some k_ = (.slice Ao15 t881.length co15:Value).ownBlock) (.slice Ao15 t881.length co15) t881 (fun k_ => some k_ = (.slice Ao16 t884.length co16:Value).ownBlock) (.slice Ao16 t884.length co16) t884 101 t890 t891 t892 w _ ?side1 ?side2 ?side3 ?side4 ?side5 A28.out).mono ?_); (case side1 => repeat (first | (with_reducible first | exact HB.out | apply below_alloc | apply pw_below_drewN | apply below_drew1 | refine below_set ?_ GE878.out | refine below_set ?_ GE888.out) | exact HB.out)); (case side2 => exact Kd.R_tight rfl HO_889002.out); (case side3 => exact fun k_ e_ => (HO_889002.out.1 k_ e_.symm).2.2); (case side4 => exact Kd.R_tight rfl HO_889003.out); (case side5 => exact fun k_ e_ => (HO_889003.out.1 k_ e_.symm).2.2); rintro e w83 ⟨rfl,hy0,hy1,hb,hkp⟩; refine ⟨_,rfl,?_⟩; have n0_:=am_ (Kd.R_mono (ok':=fun k_ => some k_ ≠ (.slice Ao10 t874.length co10:Value).ownBlock ∧ some k_ ≠ (.slice Ao15 t881.length co15:Value).ownBlock ∧ some k_ ≠ (.slice Ao16 t884.length co16:Value).ownBlock) (Kd.R_keptB (HO_879002.out) hkp (fun k_ hk_ hs_ => Or.elim hs_ (fun e_ => (hk_.2.1) e_) (fun e_ => (hk_.2.2) e_))) (fun k_ hk_ => ⟨hk_.1.1,hk_.1.2.1,hk_.1.2.2⟩)); have n1_:=am_ (Kd.R_mono (ok':=fun k_ => some k_ ≠ (.slice Ao9 t871.length co9:Value).ownBlock ∧ some k_ ≠ (.slice Ao15 t881.length co15:Value).ownBlock ∧ some k_ ≠ (.slice Ao16 t884.length co16:Value).ownBlock) (Kd.R_keptB (HO_879003.out) hkp (fun k_ hk_ hs_ => Or.elim hs_ (fun e_ => (hk_.2.1) e_) (fun e_ => (hk_.2.2) e_))) (fun k_ hk_ => ⟨hk_.1.1,hk_.1.2.1,hk_.1.2.2⟩)); have n2_:=am_ (Kd.R_reok rfl hy0 (fun k_ e_ => HO_889002.out.1 k_ e_)); have n3_:=am_ (Kd.R_reok rfl hy1 (fun k_ e_ => HO_889003.out.1 k_ e_)); have n4_:=am_ (blk_kept (bk_ BK878.out) hkp (fun hs_ => Or.elim hs_ (fun e_ => (fun e_ => (Kd.R_ne HO_889002.out BK878.out (by decide)) e_) e_) (fun e_ => (fun e_ => (Kd.R_ne HO_889003.out BK878.out (by decide)) e_) e_))); have n5_:=am_ (blk_kept (bk_ BK888.out) hkp (fun hs_ => Or.elim hs_ (fun e_ => (fun e_ => (Kd.R_ne HO_889002.out BK888.out (by decide)) e_) e_) (fun e_ => (fun e_ => (Kd.R_ne HO_889003.out BK888.out (by decide)) e_) e_))); have n6_:=am_ (hb); clear HO_879002; clear HO_879003; clear HO_889002; clear HO_889003; clear BK878; clear BK888; clear HB; have HO_879002:=n0_; have HO_879003:=n1_; have HO_889002:=n2_; have HO_889003:=n3_; have BK878:=n4_; have BK888:=n5_; have HB:=n6_; clear n0_ n1_ n2_ n3_ n4_ n5_ n6_; (try clear hb); (try clear hkp); (try clear hy0); (try clear hy1); have hcz84_0:w83.cell? ⟨gb888,0,none⟩ = some (.int .i64 t879):=(bc_ BK888.out 0).trans rfl; have hcz84_1:w83.cell? ⟨gb888,1,none⟩ = some (.int .i64 t880):=(bc_ BK888.out 1).trans rfl; have hcz84_2:w83.cell? ⟨gb888,2,none⟩ = some (.slice Ao15 t881.length co15):=(bc_ BK888.out 2).trans rfl; have hcz84_3:w83.cell? ⟨gb888,3,none⟩ = some (.slice Ao16 t884.length co16):=(bc_ BK888.out 3).trans rfl; have hfz84_0:=bz_ BK888.out 0; have hfz84_1:=bz_ BK888.out 1; have hfz84_2:=bz_ BK888.out 2; have hfz84_3:=bz_ BK888.out 3) | ((with_reducible refine gate_callee (f:=25) rfl ?_); refine goesL_ (some 38) rfl rfl Tryd.func25 (by kernel_rfl) rfl #[.agg #[.int .i64 t879,.int .i64 t880,.slice Ao15 t891.length co15,.slice Ao16 t892.length co16],.int .i64 101] rfl (by (try simp only [List.map_toArray,List.map_cons,List.map_nil]); first | done | (rw [show t891.length = t881.length from (Kd.R_reads' HO_889002.out).1.symm,show t892.length = t884.length from (Kd.R_reads' HO_889003.out).1.symm] <;> rfl) | rfl | (simp only [List.length_drop,List.length_take]; rfl)) ?_; (with_reducible refine (laws_heldFigure.calls kj4 t879 t880 _ _ t891 _ _ t892 101 t893 _ ?side1 ?side2 ?side3 ?side4 A29.out).mono ?_); (case side1 => repeat (first | exact (Kd.R_reads' HO_889002.out).2.2 | (with_reducible refine Kd.C_alloc ?_ _) | (with_reducible refine Kd.C_drewN ?_ _) | (with_reducible refine Kd.C_drew ?_))); (case side2 => rw [show t891.length = t881.length from (Kd.R_reads' HO_889002.out).1.symm]; exact (Kd.R_reads' HO_889002.out).2.1); (case side3 => repeat (first | exact (Kd.R_reads' HO_889003.out).2.2 | (with_reducible refine Kd.C_alloc ?_ _) | (with_reducible refine Kd.C_drewN ?_ _) | (with_reducible refine Kd.C_drew ?_))); (case side4 => rw [show t892.length = t884.length from (Kd.R_reads' HO_889003.out).1.symm]; exact (Kd.R_reads' HO_889003.out).2.1); rintro e w85 ⟨rfl,hb⟩; refine ⟨_,rfl,?_⟩; have n0_:=am_ (Kd.R_below (kr_ HO_879002.out) hb); have n1_:=am_ (Kd.R_below (kr_ HO_879003.out) hb); have n2_:=am_ (Kd.R_below (kr_ HO_889002.out) hb); have n3_:=am_ (Kd.R_below (kr_ HO_889003.out) hb); have n4_:=am_ (bb_ BK878.out hb); have n5_:=am_ (bb_ BK888.out hb); have n6_:=am_ (below_step (bl2_ HB.out GE878.out GE888.out) hb); clear HO_879002; clear HO_879003; clear HO_889002; clear HO_889003; clear BK878; clear BK888; clear HB; have HO_879002:=n0_; have HO_879003:=n1_; have HO_889002:=n2_; have HO_889003:=n3_; have BK878:=n4_; have BK888:=n5_; have HB:=n6_; clear n0_ n1_ n2_ n3_ n4_ n5_ n6_; (try clear hb); (try clear hb2); (try clear hk); (try clear hi)))
       go_ret
       exact ⟨er_,bl2_ HB.out GE878.out GE888.out⟩

def laws_FnExactFigureOfLoop.Pure:Prop:=∀ (a0:ByteArray),a0.size ≤ 140737488351232 → ∃ k,laws_FnExactFigureOfLoop.f k a0 = some true
theorem laws_FnExactFigureOfLoop.walk (P:laws_FnExactFigureOfLoop.Pure) (a0:ByteArray) (w:World) (hT_:TB w) (w0:a0.size ≤ 140737488351232) :
  Calls Tryd.prog 7 #[.string a0] w fun e w' => e = .returned (.bool true) ∧ Below w.heap.size w w':=by
 obtain ⟨k,h⟩:=P a0 w0
 refine (laws_FnExactFigureOfLoop.calls k a0 true w hT_ h).mono ?_
 rintro e w' ⟨rfl,hd⟩
 exact ⟨rfl,hd⟩


def impl_grid_level.f (a0_0:Int) (a0_1:Int) (a1:Int) (a2:Int):Option (Int):=if 0 ≤ (wrap64 ((wrap64 (a2 * a0_0)) + a1)) then (some (shl .u64 1 (wrap64 ((wrap64 (a2 * a0_0)) + a1)))) else (none)

def impl_grid_upright.f (a0_0:Int) (a0_1:Int) (a1:Int) (a2:Int):Option (Int):=(impl_grid_levels.f a0_0 a0_1).bind fun t140 => (if 0 ≤ (wrap64 ((wrap64 (t140 + (wrap64 (a2 * (wrap64 (a0_0 + 1)))))) + a1)) then (some (shl .u64 1 (wrap64 ((wrap64 (t140 + (wrap64 (a2 * (wrap64 (a0_0 + 1)))))) + a1)))) else (none))
def impl_grid_upright.T1:Bool × List (List Nat × List Nat):=(true,[([],[]),([0],[0]),([],[]),([],[]),([3],[3]),([4],[4]),([2,5],[2,5]),([1,6],[1,6]),([],[]),([7,8],[7,8]),([9],[9]),([10,1,0,1,2,3,4,5,6,7,8,9,10],[10])])
def impl_grid_upright.B1:List Nat:=[0,1,0,0,8,24,60,127,0,511,1023,2047]
theorem impl_grid_upright.tab1:rtab .any (opsOf Tryd.f55 1) = impl_grid_upright.T1:=by kernel_rfl
theorem impl_grid_upright.bits1:waitsOk impl_grid_upright.T1.2 impl_grid_upright.B1 = true:=by kernel_rfl

structure GridOK (w h:Int):Prop where
  w1:1 ≤ w
  w4:w ≤ 4
  h1:1 ≤ h
  h4:h ≤ 4
theorem gridOK_of {w h:Int} {a u:List Int} (hf:figB w h a u = true):GridOK w h:=by
  unfold figB at hf
  simp only [Bool.and_eq_true] at hf
  obtain ⟨b1,b2,b3,b4⟩:=grid_bounds (by simp only [Bool.and_eq_true]; exact hf.1)
  exact ⟨b1,b2,b3,b4⟩
theorem prod_b {w y:Int} (h1:1 ≤ w) (h4:w ≤ 5) (hy:0 ≤ y) (hy4:y ≤ 4):0 ≤ y * w ∧ y * w ≤ 20:=by
  have:y = 0 ∨ y = 1 ∨ y = 2 ∨ y = 3 ∨ y = 4:=by omega
  rcases this with rfl | rfl | rfl | rfl | rfl <;> omega
theorem l1Has_l0 (l:List Int) (n:Int) (hL:l.length ≤ 4000000):∀ (d k i:Nat),l.length - i = d → i ≤ l.length → d < k → spec_l1Has.l0 k n l (l.length:Int) (i:Int) = some (decide (n ∈ l.drop i)):=by
  intro d
  induction d with
  | zero =>
    intro k i h1 h3 h4
    obtain ⟨k,rfl⟩:∃ m,k = m + 1:=⟨k - 1,by omega⟩
    simp only [spec_l1Has.l0]
    rw [if_neg (by omega),List.drop_of_length_le (by omega)]
    rfl
  | succ d ih =>
    intro k i h1 h3 h4
    obtain ⟨k,rfl⟩:∃ m,k = m + 1:=⟨k - 1,by omega⟩
    have e2:wrap64 ((i:Int) + 1) = ((i + 1:Nat):Int):=by unfold wrap64; omega
    simp only [spec_l1Has.l0]
    rw [if_pos (by omega),if_pos (by omega),if_pos (by omega),rd_nat l i (by omega),e2,ih k (i + 1) (by omega) (by omega) (by omega),List.drop_eq_getElem_cons (show i < l.length by omega)]
    by_cases hn:l[i] = n
    · rw [if_pos hn,decide_eq_true (show n ∈ l[i] :: l.drop (i + 1) by rw [hn]; exact List.mem_cons_self)]
    · rw [if_neg hn]
      congr 1
      rw [decide_eq_decide,List.mem_cons]
      constructor
      · exact Or.inr
      · rintro (h | h)
        · exact absurd h.symm hn
        · exact h
theorem l1Has_f (l:List Int) (n:Int) (hL:l.length ≤ 4000000) (k:Nat) (hk:l.length < k):spec_l1Has.f k l n = some (decide (n ∈ l)):=by
  unfold spec_l1Has.f
  exact l1Has_l0 l n hL l.length k 0 (by omega) (by omega) hk
theorem fiHas_level {w h:Int} {a u:List Int} (g:GridOK w h) (hf:figB w h a u = true) (ha:a.length ≤ 1000000) (k:Nat) (hk:1000000 < k) (x y:Int) (hx0:0 ≤ x) (hx1:x < w) (hy0:0 ≤ y) (hy1:y ≤ h) :
    spec_fiHas.f k w h a u false x y = some ((figMask w h a u).testBit (y * w + x).toNat):=by
  have w1:=g.w1
  have w4:=g.w4
  have h1:=g.h1
  have h4:=g.h4
  obtain ⟨p1,p2⟩:=prod_b (w:=w) (y:=y) w1 (by omega) hy0 (by omega)
  have e0:wrap64 (w - 1) = w - 1:=by unfold wrap64; omega
  have e1:wrap64 (y * w) = y * w:=by unfold wrap64; omega
  have e2:wrap64 (y * w + x) = y * w + x:=by unfold wrap64; omega
  have hlt:((y * w + x).toNat:Int) < w * (h + 1):=by
    have c1:y = 0 ∨ y = 1 ∨ y = 2 ∨ y = 3 ∨ y = 4:=by omega
    have c2:h = 1 ∨ h = 2 ∨ h = 3 ∨ h = 4:=by omega
    clear e0 e1 e2 hf
    rcases c2 with rfl | rfl | rfl | rfl <;> rcases c1 with rfl | rfl | rfl | rfl | rfl <;> omega
  have ht:((y * w + x).toNat:Int) = y * w + x:=by omega
  unfold spec_fiHas.f spec_fiEdge.f
  rw [if_neg (by decide),l1In_f,Option.bind_some,e0,decide_eq_true hx0,decide_eq_true (show x ≤ w - 1 by omega),if_pos (show (true && true) = true from rfl),l1In_f,Option.bind_some,decide_eq_true hy0,decide_eq_true hy1,Option.bind_some,if_neg (show ¬ false = true by decide),e1,e2,l1Has_f a _ (by omega) k (by omega),Option.bind_some,figMask_level hf _ hlt,ht]
theorem fiHas_upright {w h:Int} {a u:List Int} (g:GridOK w h) (hf:figB w h a u = true) (hu:u.length ≤ 1000000) (k:Nat) (hk:1000000 < k) (x y:Int) (hx0:0 ≤ x) (hx1:x ≤ w) (hy0:0 ≤ y) (hy1:y < h) :
    spec_fiHas.f k w h a u true x y = some ((figMask w h a u).testBit ((w * (h + 1)).toNat + (y * (w + 1) + x).toNat)):=by
  have w1:=g.w1
  have w4:=g.w4
  have h1:=g.h1
  have h4:=g.h4
  obtain ⟨p1,p2⟩:=prod_b (w:=w + 1) (y:=y) (by omega) (by omega) hy0 (by omega)
  have e0:wrap64 (h - 1) = h - 1:=by unfold wrap64; omega
  have e3:wrap64 (w + 1) = w + 1:=by unfold wrap64; omega
  have e1:wrap64 (y * (w + 1)) = y * (w + 1):=by unfold wrap64; omega
  have e2:wrap64 (y * (w + 1) + x) = y * (w + 1) + x:=by unfold wrap64; omega
  have ht:((y * (w + 1) + x).toNat:Int) = y * (w + 1) + x:=by omega
  unfold spec_fiHas.f spec_fiEdge.f
  rw [if_pos rfl,l1In_f,Option.bind_some,e0,e3,decide_eq_true hx0,decide_eq_true hx1,if_pos (show (true && true) = true from rfl),l1In_f,Option.bind_some,Option.bind_some,if_pos rfl,e1,e2,l1Has_f u _ (by omega) k (by omega),Option.bind_some,figMask_upright hf,ht]

def inC (w h x y:Int):Prop:=(0 ≤ x ∧ x ≤ w) ∧ (0 ≤ y ∧ y ≤ h)
instance (w h x y:Int):Decidable (inC w h x y):=by unfold inC; infer_instance
def btwE (w h x y d:Int):Option Nat :=
  if inC w h x y then
    if d = 110 then (if 1 ≤ y then some ((w * (h + 1)).toNat + ((y - 1) * (w + 1) + x).toNat) else none)
    else if d = 101 then (if x < w then some (y * w + x).toNat else none)
    else if d = 115 then (if y < h then some ((w * (h + 1)).toNat + (y * (w + 1) + x).toNat) else none)
    else (if 1 ≤ x then some (y * w + (x - 1)).toNat else none)
  else none

theorem rising_ext:∀ {l m:List Int},l.Pairwise (· < ·) → m.Pairwise (· < ·) → (∀ x,x ∈ l ↔ x ∈ m) → l = m
  | [],[],_,_,_ => rfl
  | [],b :: m,_,_,h => by have:=(h b).2 List.mem_cons_self; cases this
  | a :: l,[],_,_,h => by have:=(h a).1 List.mem_cons_self; cases this
  | a :: l,b :: m,h1,h2,h => by
    rw [List.pairwise_cons] at h1 h2
    have e:a = b:=by
      rcases List.mem_cons.1 ((h a).1 List.mem_cons_self) with e | e
      · exact e
      · rcases List.mem_cons.1 ((h b).2 List.mem_cons_self) with e2 | e2
        · exact e2.symm
        · have:=h2.1 a e; have:=h1.1 b e2; omega
    subst e
    rw [rising_ext h1.2 h2.2 (fun x => ?_)]
    constructor
    · intro hx
      rcases List.mem_cons.1 ((h x).1 (List.mem_cons_of_mem _ hx)) with e | e
      · have:=h1.1 x hx; omega
      · exact e
    · intro hx
      rcases List.mem_cons.1 ((h x).2 (List.mem_cons_of_mem _ hx)) with e | e
      · have:=h2.1 x hx; omega
      · exact e
theorem pw_rising:∀ {l:List Int},l.Pairwise (· < ·) → risingB l = true
  | [],_ => rfl
  | [a],_ => rfl
  | a :: b :: t,h => by
    rw [List.pairwise_cons] at h
    simp only [risingB,Bool.and_eq_true,decide_eq_true_iff]
    exact ⟨h.1 b List.mem_cons_self,pw_rising h.2⟩
def setL (n:Nat) (p:Nat → Bool):List Int:=((List.range n).filter p).map fun n:Nat => (n:Int)
theorem setL_pw (n:Nat) (p:Nat → Bool):(setL n p).Pairwise (· < ·):=by
  unfold setL
  rw [List.pairwise_map]
  exact (List.Pairwise.filter p List.pairwise_lt_range).imp (fun h => by omega)
theorem setL_mem (n:Nat) (p:Nat → Bool) (x:Int):x ∈ setL n p ↔ ∃ i:Nat,(i:Int) = x ∧ i < n ∧ p i = true:=by
  unfold setL
  rw [List.mem_map]
  constructor
  · rintro ⟨i,hi,rfl⟩
    rw [List.mem_filter,List.mem_range] at hi
    exact ⟨i,rfl,hi⟩
  · rintro ⟨i,rfl,hi⟩
    exact ⟨i,by rw [List.mem_filter,List.mem_range]; exact hi,rfl⟩
theorem setL_len (n:Nat) (p:Nat → Bool):(setL n p).length ≤ n:=by
  unfold setL
  rw [List.length_map]
  have:=List.length_filter_le p (List.range n)
  rw [List.length_range] at this
  exact this
theorem setL_congr {n:Nat} {p q:Nat → Bool} (h:∀ i,i < n → p i = q i):setL n p = setL n q:=by
  unfold setL
  congr 1
  exact List.filter_congr (fun i hi => h i (List.mem_range.1 hi))
theorem setL_filter (n:Nat) (p:Nat → Bool) (q:Int → Bool):(setL n p).filter q = setL n (fun i => p i && q (i:Int)):=by
  unfold setL
  rw [List.filter_map,List.filter_filter]
  congr 1
  apply List.filter_congr
  intro i _
  exact Bool.and_comm _ _
theorem setL_eq {n m:Nat} {p q:Nat → Bool} (h:∀ i,(i < n ∧ p i = true) ↔ (i < m ∧ q i = true)):setL n p = setL m q:=by
  refine rising_ext (setL_pw n p) (setL_pw m q) (fun x => ?_)
  rw [setL_mem,setL_mem]
  constructor
  · rintro ⟨i,hi,h2⟩; exact ⟨i,hi,(h i).1 h2⟩
  · rintro ⟨i,hi,h2⟩; exact ⟨i,hi,(h i).2 h2⟩
theorem setL_in (n:Nat) (p:Nat → Bool) (i:Nat):(i:Int) ∈ setL n p ↔ i < n ∧ p i = true:=by
  rw [setL_mem]
  constructor
  · rintro ⟨j,hj,h⟩
    have:j = i:=by omega
    subst this
    exact h
  · intro h; exact ⟨i,rfl,h⟩
theorem setL_succ (n:Nat) (p:Nat → Bool):setL (n + 1) p = setL n p ++ if p n = true then [(n:Int)] else []:=by
  unfold setL
  rw [List.range_succ,List.filter_append,List.map_append]
  congr 1
  cases h:p n with
  | true => rw [List.filter_cons_of_pos h]; rfl
  | false => rw [List.filter_cons_of_neg (by rw [h]; simp)]; rfl


def rowA (w h:Int) (M:Nat):List Int:=setL (w * (h + 1)).toNat fun i => M.testBit i
def rowU (w h:Int) (M:Nat):List Int:=setL (h * (w + 1)).toNat fun i => M.testBit ((w * (h + 1)).toNat + i)
def figN (w h:Int):Nat:=(w * (h + 1)).toNat + (h * (w + 1)).toNat
theorem figN_le {w h:Int} (g:GridOK w h):figN w h ≤ 40 ∧ (w * (h + 1)).toNat ≤ 20 ∧ (h * (w + 1)).toNat ≤ 20:=by
  obtain ⟨c1,c2,c3,c4⟩:=area_bounds g.w1 g.w4 g.h1 g.h4
  unfold figN
  omega
theorem rowA_len {w h:Int} (g:GridOK w h) (M:Nat):(rowA w h M).length ≤ 20:=Nat.le_trans (setL_len _ _) (figN_le g).2.1
theorem rowU_len {w h:Int} (g:GridOK w h) (M:Nat):(rowU w h M).length ≤ 20:=Nat.le_trans (setL_len _ _) (figN_le g).2.2
theorem pow_figN {w h:Int} (g:GridOK w h) {M:Nat} (hM:M < 2 ^ figN w h):M < 2 ^ 60:=Nat.lt_of_lt_of_le hM (Nat.pow_le_pow_right (by omega) (by have:=(figN_le g).1; omega))
theorem figMask_figN {w h:Int} {a u:List Int} (hf:figB w h a u = true):figMask w h a u < 2 ^ figN w h:=by
  have g:=gridOK_of hf
  obtain ⟨c1,c2,c3,c4⟩:=area_bounds g.w1 g.w4 g.h1 g.h4
  unfold figB at hf
  simp only [Bool.and_eq_true] at hf
  obtain ⟨hg,-,-,hi1,hi2⟩:=hf
  apply Nat.lt_pow_two_of_testBit
  intro i hi
  unfold figN at hi
  unfold figMask
  rw [bitsFrom_test,bitsFrom_test,Nat.zero_testBit,Bool.false_or,Bool.or_eq_false_iff]
  constructor
  · rw [List.any_eq_false]
    intro x hx
    have hb:=inB_mem hi1 x hx
    simp
    omega
  · rw [List.any_eq_false]
    intro x hx
    have hb:=inB_mem hi2 x hx
    simp
    omega
theorem rowA_in {w h:Int} {M i:Nat} (hi:i < (w * (h + 1)).toNat):(i:Int) ∈ rowA w h M ↔ M.testBit i = true:=by
  unfold rowA; rw [setL_in]; exact ⟨fun h => h.2,fun h => ⟨hi,h⟩⟩
theorem rowU_in {w h:Int} {M i:Nat} (hi:i < (h * (w + 1)).toNat):(i:Int) ∈ rowU w h M ↔ M.testBit ((w * (h + 1)).toNat + i) = true:=by
  unfold rowU; rw [setL_in]; exact ⟨fun h => h.2,fun h => ⟨hi,h⟩⟩
theorem rowA_b {w h:Int} {M:Nat}:∀ x ∈ rowA w h M,0 ≤ x ∧ x < ((w * (h + 1)).toNat:Int):=fun x hx => by
  unfold rowA at hx
  rw [setL_mem] at hx
  obtain ⟨i,rfl,hi,-⟩:=hx
  omega
theorem rowU_b {w h:Int} {M:Nat}:∀ x ∈ rowU w h M,0 ≤ x ∧ x < ((h * (w + 1)).toNat:Int):=fun x hx => by
  unfold rowU at hx
  rw [setL_mem] at hx
  obtain ⟨i,rfl,hi,-⟩:=hx
  omega


theorem levels_f {w h:Int} (g:GridOK w h):impl_grid_levels.f w h = some (((w * (h + 1)).toNat:Nat):Int):=by
  obtain ⟨c1,c2,c3,c4⟩:=area_bounds g.w1 g.w4 g.h1 g.h4
  have w1:=g.w1
  have w4:=g.w4
  have h1:=g.h1
  have h4:=g.h4
  have e1:wrap64 (h + 1) = h + 1:=by unfold wrap64; omega
  have e2:wrap64 (w * (h + 1)) = (((w * (h + 1)).toNat:Nat):Int):=by unfold wrap64; omega
  unfold impl_grid_levels.f
  rw [e1,e2]
theorem listed_setL {s:Nat} (hs:s < 2 ^ 60):impl_set_listed.f (s:Int) = some (setL 64 fun i => s.testBit i):=by
  unfold impl_set_listed.f
  have h2:(2:Nat) ^ 60 = 1152921504606846976:=by decide
  rw [if_pos ⟨Int.natCast_nonneg _,by omega⟩,Int.toNat_natCast]
  rfl
theorem figure_f {w h:Int} (g:GridOK w h) {M:Nat} (hM:M < 2 ^ figN w h):impl_grid_figure.f w h (M:Int) = some (w,h,rowA w h M,rowU w h M):=by
  have hM60:=pow_figN g hM
  obtain ⟨b1,b2,b3⟩:=figN_le g
  unfold impl_grid_figure.f
  rw [levels_f g,Option.bind_some,if_pos (Int.natCast_nonneg _),shl_u64 _ (by omega)]
  unfold rowA rowU
  unfold figN at hM
  generalize (w * (h + 1)).toNat = A at *
  generalize (h * (w + 1)).toNat = U at *
  have hp:=Nat.two_pow_pos A
  have hA:2 ^ A < 2 ^ 60:=pow_lt60 (by omega)
  have hA2:2 ^ A - 1 < 2 ^ 60:=by omega
  have e1:IntKind.u64.wrap (((2 ^ A:Nat):Int) - 1) = ((2 ^ A - 1:Nat):Int):=by
    have:((2 ^ A:Nat):Int) - 1 = ((2 ^ A - 1:Nat):Int):=by omega
    rw [this]
    exact u64_small _ (Int.natCast_nonneg _) (by
      have h2:(2:Nat) ^ 60 = 1152921504606846976:=by decide
      have h3:(2:Int) ^ 60 = 1152921504606846976:=by decide
      rw [h3]; omega)
  have e2:shr .u64 (M:Int) (A:Int) = ((M >>> A:Nat):Int):=by
    unfold shr
    rw [Int.toNat_natCast,Nat.min_eq_left (show A ≤ IntKind.u64.bits by have:IntKind.u64.bits = 64:=rfl; omega),Nat.shiftRight_eq_div_pow]
    exact_mod_cast rfl
  have hs:M >>> A < 2 ^ 60:=Nat.lt_of_le_of_lt (by rw [Nat.shiftRight_eq_div_pow]; exact Nat.div_le_self _ _) hM60
  rw [e1,and_u64 _ _ hM60 hA2,listed_setL (Nat.lt_of_le_of_lt Nat.and_le_left hM60),Option.bind_some,Option.bind_some,if_pos (Int.natCast_nonneg _),e2,listed_setL hs,Option.bind_some]
  have r1:setL 64 (fun i => (M &&& (2 ^ A - 1)).testBit i) = setL A fun i => M.testBit i:=setL_eq fun i => by
    rw [Nat.testBit_and,Nat.testBit_two_pow_sub_one]
    by_cases hi:i < A
    · simp [hi]; omega
    · simp [hi]
  have r2:setL 64 (fun i => (M >>> A).testBit i) = setL U fun i => M.testBit (A + i):=setL_eq fun i => by
    rw [Nat.testBit_shiftRight]
    constructor
    · rintro ⟨h1,h2⟩
      refine ⟨?_,h2⟩
      rcases Nat.lt_or_ge i U with h3 | h3
      · exact h3
      · rw [Nat.testBit_lt_two_pow (Nat.lt_of_lt_of_le hM (Nat.pow_le_pow_right (by omega) (by omega)))] at h2
        cases h2
    · rintro ⟨h1,h2⟩; exact ⟨by omega,h2⟩
  rw [r1,r2]


def stepB (w h:Int) (m:Nat) (x y d:Int):Bool:=match btwE w h x y d with | none => false | some e => m.testBit e
theorem liNext_f {w h:Int} {a u:List Int} (g:GridOK w h) (hf:figB w h a u = true) (ha:a.length ≤ 1000000) (hu:u.length ≤ 1000000) (k:Nat) (hk:1000000 < k) (x y:Int) (hc:inC w h x y) :
    spec_liNext.f k w h a u x y 0 = some (x,y - 1,stepB w h (figMask w h a u) x y 110) ∧ spec_liNext.f k w h a u x y 1 = some (x + 1,y,stepB w h (figMask w h a u) x y 101) ∧
    spec_liNext.f k w h a u x y 2 = some (x,y + 1,stepB w h (figMask w h a u) x y 115) ∧ spec_liNext.f k w h a u x y 3 = some (x - 1,y,stepB w h (figMask w h a u) x y 119):=by
  obtain ⟨⟨hx0,hx1⟩,hy0,hy1⟩:=id hc
  have w1:=g.w1
  have w4:=g.w4
  have h1:=g.h1
  have h4:=g.h4
  have wy1:wrap64 (y - 1) = y - 1:=by unfold wrap64; omega
  have wy2:wrap64 (y + 1) = y + 1:=by unfold wrap64; omega
  have wx1:wrap64 (x - 1) = x - 1:=by unfold wrap64; omega
  have wx2:wrap64 (x + 1) = x + 1:=by unfold wrap64; omega
  refine ⟨?_,?_,?_,?_⟩
  · unfold spec_liNext.f stepB btwE
    rw [if_pos rfl,wy1,if_pos hc,if_pos rfl]
    by_cases hh:0 < y
    · rw [if_pos (show y > 0 from hh),if_pos (show 1 ≤ y by omega),fiHas_upright g hf hu k hk x (y - 1) hx0 hx1 (by omega) (by omega),Option.bind_some]
    · rw [if_neg (show ¬ y > 0 from hh),if_neg (show ¬ 1 ≤ y by omega)]
  · unfold spec_liNext.f stepB btwE
    rw [if_neg (show ¬ (1:Int) = 0 by decide),if_pos rfl,wx2,if_pos hc,if_neg (show ¬ (101:Int) = 110 by decide),if_pos rfl]
    by_cases hh:x < w
    · rw [if_pos hh,if_pos hh,fiHas_level g hf ha k hk x y hx0 hh hy0 hy1,Option.bind_some]
    · rw [if_neg hh,if_neg hh]
  · unfold spec_liNext.f stepB btwE
    rw [if_neg (show ¬ (2:Int) = 0 by decide),if_neg (show ¬ (2:Int) = 1 by decide),if_pos rfl,wy2,if_pos hc,if_neg (show ¬ (115:Int) = 110 by decide),if_neg (show ¬ (115:Int) = 101 by decide),if_pos rfl]
    by_cases hh:y < h
    · rw [if_pos hh,if_pos hh,fiHas_upright g hf hu k hk x y hx0 hx1 hy0 hh,Option.bind_some]
    · rw [if_neg hh,if_neg hh]
  · unfold spec_liNext.f stepB btwE
    rw [if_neg (show ¬ (3:Int) = 0 by decide),if_neg (show ¬ (3:Int) = 1 by decide),if_neg (show ¬ (3:Int) = 2 by decide),wx1,if_pos hc,if_neg (show ¬ (119:Int) = 110 by decide),if_neg (show ¬ (119:Int) = 101 by decide),if_neg (show ¬ (119:Int) = 115 by decide)]
    by_cases hh:0 < x
    · rw [if_pos (show x > 0 from hh),if_pos (show 1 ≤ x by omega),fiHas_level g hf ha k hk (x - 1) y (by omega) (by omega) hy0 hy1,Option.bind_some]
    · rw [if_neg (show ¬ x > 0 from hh),if_neg (show ¬ 1 ≤ x by omega)]


def diffN (s g:Nat):Nat:=s ^^^ (s &&& g)
theorem diffN_test (s g i:Nat):(diffN s g).testBit i = (s.testBit i && !g.testBit i):=by
  unfold diffN; rw [Nat.testBit_xor,Nat.testBit_and]; cases s.testBit i <;> cases g.testBit i <;> rfl


def spec_l1Split.l0:Nat → ByteArray → Int → List ByteArray → Int → Int → Option (List ByteArray)
  | 0,_,_,_,_,_ => none
  | k + 1,x0,x1,x5,x6,x7 => if x7 < (x0.size:Int) then (if 0 ≤ x7 then (if (bt x0 x7) = x1 then (if 0 ≤ x6 then (if x6 ≤ x7 then (if x7 ≤ (x0.size:Int) then (if x5.length < 8796093022208 then (spec_l1Split.l0 k x0 x1 (x5 ++ [x0.extract (x6:Int).toNat (x7:Int).toNat]) (wrap64 (x7 + 1)) (wrap64 (x7 + 1))) else (none)) else (none)) else (none)) else (none)) else (spec_l1Split.l0 k x0 x1 x5 x6 (wrap64 (x7 + 1)))) else (none)) else (if 0 ≤ x6 then (if x6 ≤ (x0.size:Int) then (if x5.length < 8796093022208 then (some (x5 ++ [x0.extract (x6:Int).toNat x0.size])) else (none)) else (none)) else (none))
def spec_l1Split.f (k:Nat) (a0:ByteArray) (a1:Int):Option (List ByteArray):=spec_l1Split.l0 k a0 a1 ([]:List ByteArray) 0 0
theorem spec_l1Split.mono_l:∀ k,(∀ y0 y1 y2 y3 y4,LeO (spec_l1Split.l0 k y0 y1 y2 y3 y4) (spec_l1Split.l0 (k + 1) y0 y1 y2 y3 y4))
  | 0 => fun _ _ _ _ _ r h => by simp [spec_l1Split.l0] at h
  | k + 1 => by
    have ih0:=spec_l1Split.mono_l k
    · intro y0 y1 y2 y3 y4
      unfold spec_l1Split.l0
      repeat' first | (with_reducible first | exact ih0 _ _ _ _ _ | exact LeO.refl _ | exact LeO.none _ | refine LeO.ite ?_ ?_ | refine LeO.bind ?_ (fun _ => ?_)) | exact ih0 _ _ _ _ _
theorem spec_l1Split.mono:∀ a0 a1 k,LeO (spec_l1Split.f k a0 a1) (spec_l1Split.f (k + 1) a0 a1):=by
  intro a0 a1 k
  have ih0:=spec_l1Split.mono_l k
  unfold spec_l1Split.f
  repeat' first | (with_reducible first | exact ih0 _ _ _ _ _ | exact LeO.refl _ | exact LeO.none _ | refine LeO.ite ?_ ?_ | refine LeO.bind ?_ (fun _ => ?_)) | exact ih0 _ _ _ _ _


def chC (C:List (List UInt8)) (k x:Nat):UInt8:=(C.getD k []).getD x 46
def ndC (C:List (List UInt8)) (k x:Nat):Bool:=!(chC C k x == 46)
def edK (w h k x:Nat):Nat:=if k % 2 = 0 then k / 2 * w + x else w * (h + 1) + (k / 2 * (w + 1) + x)
def rowM (C:List (List UInt8)) (w h k:Nat):Nat → Nat → Nat
  | 0,m => m
  | n + 1,m => if ndC C k n = true then rowM C w h k n m ||| 2 ^ edK w h k n else rowM C w h k n m
def allM (C:List (List UInt8)) (w h:Nat):Nat → Nat
  | 0 => 0
  | k + 1 => rowM C w h k (w + k % 2) (allM C w h k)

mutual
def spec_fiParse.j0:Nat → List ByteArray → Bool → Int → Int → Option (Int × Int × List Int × List Int × Bool)
  | 0,_,_,_,_ => none
  | k + 1,x4,x34,x115000,x115001 => if x34 = true then (some (0,0,([]:List Int),([]:List Int),false)) else (spec_fiParse.l0 k x4 (x4.length:Int) 0 x115000 x115001 ([]:List Int) ([]:List Int))
def spec_fiParse.l0:Nat → List ByteArray → Int → Int → Int → Int → List Int → List Int → Option (Int × Int × List Int × List Int × Bool)
  | 0,_,_,_,_,_,_,_ => none
  | k + 1,x36,x37,x38,x115000,x115001,x115002,x115003 => if x38 < x37 then (if 0 ≤ x38 then (if x38 < (x36.length:Int) then (if ((rdOf ByteArray.empty x36 x38).size:Int) = (wrap64 (x115000 + (Int.tmod x38 2))) then (spec_fiParse.l1 k x38 (rdOf ByteArray.empty x36 x38) 0 x36 x37 x38 x115000 x115001 x115002 x115003) else (some (0,0,([]:List Int),([]:List Int),false))) else (none)) else (none)) else (some (x115000,x115001,x115002,x115003,true))
def spec_fiParse.l1:Nat → Int → ByteArray → Int → List ByteArray → Int → Int → Int → Int → List Int → List Int → Option (Int × Int × List Int × List Int × Bool)
  | 0,_,_,_,_,_,_,_,_,_,_ => none
  | k + 1,x6,x7,x8,x36,x37,x38,x115000,x115001,x115002,x115003 => if x8 < (x7.size:Int) then (if 0 ≤ x8 then (if (bt x7 x8) = 46 then (spec_fiParse.l1 k x6 x7 (wrap64 (x8 + 1)) x36 x37 x38 x115000 x115001 x115002 x115003) else (if (Int.tmod x6 2) = 0 then (spec_fiParse.j3 k x6 x7 x8 x36 x37 x38 ((bt x7 x8) == 45) x115000 x115001 x115002 x115003) else (spec_fiParse.j3 k x6 x7 x8 x36 x37 x38 false x115000 x115001 x115002 x115003))) else (none)) else (spec_fiParse.l0 k x36 x37 (wrap64 (x38 + 1)) x115000 x115001 x115002 x115003)
def spec_fiParse.j3:Nat → Int → ByteArray → Int → List ByteArray → Int → Int → Bool → Int → Int → List Int → List Int → Option (Int × Int × List Int × List Int × Bool)
  | 0,_,_,_,_,_,_,_,_,_,_,_ => none
  | k + 1,x6,x7,x8,x36,x37,x38,x64,x115000,x115001,x115002,x115003 => if x64 = true then (if x115002.length < 17592186044416 then (spec_fiParse.l1 k x6 x7 (wrap64 (x8 + 1)) x36 x37 x38 x115000 x115001 (x115002 ++ [wrap64 ((wrap64 ((wrap64 (Int.tdiv x6 2)) * x115000)) + x8)]) x115003) else (none)) else (if (Int.tmod x6 2) = 1 then (if 0 ≤ x8 then (if x8 < (x7.size:Int) then (if (bt x7 x8) = 124 then (if x115003.length < 17592186044416 then (spec_fiParse.l1 k x6 x7 (wrap64 (x8 + 1)) x36 x37 x38 x115000 x115001 x115002 (x115003 ++ [wrap64 ((wrap64 ((wrap64 (Int.tdiv x6 2)) * (wrap64 (x115000 + 1)))) + x8)])) else (none)) else (some (0,0,([]:List Int),([]:List Int),false))) else (none)) else (none)) else (some (0,0,([]:List Int),([]:List Int),false)))
end
def spec_fiParse.f (k:Nat) (a0:ByteArray):Option (Int × Int × List Int × List Int × Bool):=if (a0.size:Int) > 60 then (some (0,0,([]:List Int),([]:List Int),false)) else ((spec_l1Split.f k a0 47).bind fun t110 => (if 0 < (t110.length:Int) then (if ((t110.length:Int) % 2) = 0 then (spec_fiParse.j0 k t110 true ((rdOf ByteArray.empty t110 0).size:Int) (wrap64 ((t110.length:Int) / 2))) else ((spec_fiGrid.f ((rdOf ByteArray.empty t110 0).size:Int) (wrap64 ((t110.length:Int) / 2))).bind fun t115 => (spec_fiParse.j0 k t110 (!t115) ((rdOf ByteArray.empty t110 0).size:Int) (wrap64 ((t110.length:Int) / 2))))) else (none)))
theorem spec_fiParse.mono_l:∀ k,(∀ y0 y1 y2 y3,LeO (spec_fiParse.j0 k y0 y1 y2 y3) (spec_fiParse.j0 (k + 1) y0 y1 y2 y3)) ∧ (∀ y0 y1 y2 y3 y4 y5 y6,LeO (spec_fiParse.l0 k y0 y1 y2 y3 y4 y5 y6) (spec_fiParse.l0 (k + 1) y0 y1 y2 y3 y4 y5 y6)) ∧ (∀ y0 y1 y2 y3 y4 y5 y6 y7 y8 y9,LeO (spec_fiParse.l1 k y0 y1 y2 y3 y4 y5 y6 y7 y8 y9) (spec_fiParse.l1 (k + 1) y0 y1 y2 y3 y4 y5 y6 y7 y8 y9)) ∧ (∀ y0 y1 y2 y3 y4 y5 y6 y7 y8 y9 y10,LeO (spec_fiParse.j3 k y0 y1 y2 y3 y4 y5 y6 y7 y8 y9 y10) (spec_fiParse.j3 (k + 1) y0 y1 y2 y3 y4 y5 y6 y7 y8 y9 y10))
  | 0 => ⟨fun _ _ _ _ r h => by simp [spec_fiParse.j0] at h,fun _ _ _ _ _ _ _ r h => by simp [spec_fiParse.l0] at h,fun _ _ _ _ _ _ _ _ _ _ r h => by simp [spec_fiParse.l1] at h,fun _ _ _ _ _ _ _ _ _ _ _ r h => by simp [spec_fiParse.j3] at h⟩
  | k + 1 => by
    obtain ⟨ih0,ih1,ih2,ih3⟩:=spec_fiParse.mono_l k
    refine ⟨?_,?_,?_,?_⟩
    · intro y0 y1 y2 y3
      unfold spec_fiParse.j0
      repeat' first | (with_reducible first | exact ih0 _ _ _ _ | exact ih1 _ _ _ _ _ _ _ | exact ih2 _ _ _ _ _ _ _ _ _ _ | exact ih3 _ _ _ _ _ _ _ _ _ _ _ | exact spec_l1Split.mono _ _ _ | exact LeO.refl _ | exact LeO.none _ | refine LeO.ite ?_ ?_ | refine LeO.bind ?_ (fun _ => ?_)) | exact ih0 _ _ _ _ | exact ih1 _ _ _ _ _ _ _ | exact ih2 _ _ _ _ _ _ _ _ _ _ | exact ih3 _ _ _ _ _ _ _ _ _ _ _ | exact spec_l1Split.mono _ _ _
    · intro y0 y1 y2 y3 y4 y5 y6
      unfold spec_fiParse.l0
      repeat' first | (with_reducible first | exact ih0 _ _ _ _ | exact ih1 _ _ _ _ _ _ _ | exact ih2 _ _ _ _ _ _ _ _ _ _ | exact ih3 _ _ _ _ _ _ _ _ _ _ _ | exact spec_l1Split.mono _ _ _ | exact LeO.refl _ | exact LeO.none _ | refine LeO.ite ?_ ?_ | refine LeO.bind ?_ (fun _ => ?_)) | exact ih0 _ _ _ _ | exact ih1 _ _ _ _ _ _ _ | exact ih2 _ _ _ _ _ _ _ _ _ _ | exact ih3 _ _ _ _ _ _ _ _ _ _ _ | exact spec_l1Split.mono _ _ _
    · intro y0 y1 y2 y3 y4 y5 y6 y7 y8 y9
      unfold spec_fiParse.l1
      repeat' first | (with_reducible first | exact ih0 _ _ _ _ | exact ih1 _ _ _ _ _ _ _ | exact ih2 _ _ _ _ _ _ _ _ _ _ | exact ih3 _ _ _ _ _ _ _ _ _ _ _ | exact spec_l1Split.mono _ _ _ | exact LeO.refl _ | exact LeO.none _ | refine LeO.ite ?_ ?_ | refine LeO.bind ?_ (fun _ => ?_)) | exact ih0 _ _ _ _ | exact ih1 _ _ _ _ _ _ _ | exact ih2 _ _ _ _ _ _ _ _ _ _ | exact ih3 _ _ _ _ _ _ _ _ _ _ _ | exact spec_l1Split.mono _ _ _
    · intro y0 y1 y2 y3 y4 y5 y6 y7 y8 y9 y10
      unfold spec_fiParse.j3
      repeat' first | (with_reducible first | exact ih0 _ _ _ _ | exact ih1 _ _ _ _ _ _ _ | exact ih2 _ _ _ _ _ _ _ _ _ _ | exact ih3 _ _ _ _ _ _ _ _ _ _ _ | exact spec_l1Split.mono _ _ _ | exact LeO.refl _ | exact LeO.none _ | refine LeO.ite ?_ ?_ | refine LeO.bind ?_ (fun _ => ?_)) | exact ih0 _ _ _ _ | exact ih1 _ _ _ _ _ _ _ | exact ih2 _ _ _ _ _ _ _ _ _ _ | exact ih3 _ _ _ _ _ _ _ _ _ _ _ | exact spec_l1Split.mono _ _ _
theorem spec_fiParse.mono:∀ a0 k,LeO (spec_fiParse.f k a0) (spec_fiParse.f (k + 1) a0):=by
  intro a0 k
  obtain ⟨ih0,ih1,ih2,ih3⟩:=spec_fiParse.mono_l k
  unfold spec_fiParse.f
  repeat' first | (with_reducible first | exact ih0 _ _ _ _ | exact ih1 _ _ _ _ _ _ _ | exact ih2 _ _ _ _ _ _ _ _ _ _ | exact ih3 _ _ _ _ _ _ _ _ _ _ _ | exact spec_l1Split.mono _ _ _ | exact LeO.refl _ | exact LeO.none _ | refine LeO.ite ?_ ?_ | refine LeO.bind ?_ (fun _ => ?_)) | exact ih0 _ _ _ _ | exact ih1 _ _ _ _ _ _ _ | exact ih2 _ _ _ _ _ _ _ _ _ _ | exact ih3 _ _ _ _ _ _ _ _ _ _ _ | exact spec_l1Split.mono _ _ _
end Go.Proofs.YtehjfaddhmdicaaDoor.P
namespace Go.Proofs.YtehjfaddhmdicaaDoor.P
open Go.RowKit Go.Proofs.YtehjfaddhmdicaaDoorW.PrintWords Go.Proofs.YtehjfaddhmdicaaDoorW.PrintLast Go.Proofs.YtehjfaddhmdicaaDoorW.PrintMore
attribute [local go_sem] max2_int min2_int max_two min_two max_three min_three max_four min_four   -- for this text's walks alone
set_option linter.unusedVariables false
set_option linter.unusedSimpArgs false

def aN (w k x:Nat):Nat:=if k % 2 = 0 then k / 2 * w + x else (k / 2 + 1) * w
def uN (w k x:Nat):Nat:=if k % 2 = 0 then k / 2 * (w + 1) else k / 2 * (w + 1) + x
def chs (R:List ByteArray):List (List UInt8):=R.map fun s:ByteArray => s.data.toList
section
variable {R:List ByteArray} {w h:Nat}
def lA (R:List ByteArray) (w h k x:Nat):List Int:=setL (aN w k x) fun i => (allM (chs R) w h (2 * h + 1)).testBit i
def lU (R:List ByteArray) (w h k x:Nat):List Int:=setL (uN w k x) fun i => (allM (chs R) w h (2 * h + 1)).testBit (w * (h + 1) + i)
end

end Go.Proofs.YtehjfaddhmdicaaDoor.P
namespace Go.Proofs.YtehjfaddhmdicaaDoor.P
open Go.RowKit Go.Proofs.YtehjfaddhmdicaaDoorW.PrintWords Go.Proofs.YtehjfaddhmdicaaDoorW.PrintLast Go.Proofs.YtehjfaddhmdicaaDoorW.PrintMore
attribute [local go_sem] max2_int min2_int max_two min_two max_three min_three max_four min_four   -- for this text's walks alone
set_option linter.unusedVariables false
set_option linter.unusedSimpArgs false

theorem figB_rows {w h:Int} (g:GridOK w h) (M:Nat):figB w h (rowA w h M) (rowU w h M) = true:=by
 obtain ⟨c1,c2,c3,c4⟩:=area_bounds g.w1 g.w4 g.h1 g.h4
 have w1:=g.w1
 have w4:=g.w4
 have h1:=g.h1
 have h4:=g.h4
 unfold figB
 simp only [Bool.and_eq_true,decide_eq_true_eq]
 refine ⟨⟨⟨⟨w1,w4⟩,h1⟩,h4⟩,pw_rising (setL_pw _ _),pw_rising (setL_pw _ _),?_,?_⟩
 ·unfold inB
  rw [List.all_eq_true]
  intro x hx
  have:=rowA_b x hx
  simp only [Bool.and_eq_true,decide_eq_true_eq]
  omega
 ·unfold inB
  rw [List.all_eq_true]
  intro x hx
  have:=rowU_b x hx
  simp only [Bool.and_eq_true,decide_eq_true_eq]
  omega
theorem figMask_rows {w h:Int} (g:GridOK w h) {M:Nat} (hM:M < 2 ^ figN w h):figMask w h (rowA w h M) (rowU w h M) = M:=by
 have hf:=figB_rows g M
 obtain ⟨c1,c2,c3,c4⟩:=area_bounds g.w1 g.w4 g.h1 g.h4
 have hm:=figMask_figN hf
 apply Nat.eq_of_testBit_eq
 intro i
 rcases Nat.lt_or_ge i (w * (h + 1)).toNat with hi | hi
 ·rw [figMask_level hf i (by omega)]
  rw [Bool.eq_iff_iff,decide_eq_true_iff]
  exact rowA_in hi
 ·rcases Nat.lt_or_ge i (figN w h) with hi2 | hi2
  ·obtain ⟨j,rfl⟩:∃ j,i = (w * (h + 1)).toNat + j:=⟨i - (w * (h + 1)).toNat,by omega⟩
   rw [figMask_upright hf j]
   rw [Bool.eq_iff_iff,decide_eq_true_iff]
   exact rowU_in (by unfold figN at hi2; omega)
  ·rw [Nat.testBit_lt_two_pow (Nat.lt_of_lt_of_le hm (Nat.pow_le_pow_right (by omega) hi2)),Nat.testBit_lt_two_pow (Nat.lt_of_lt_of_le hM (Nat.pow_le_pow_right (by omega) hi2))]
theorem ins_ok {l:List Int} {x:Int} {i:Nat} (hp:l.Pairwise (· < ·)) (h1:∀ y ∈ l.take i,y < x) (h2:∀ y ∈ l.drop i,x < y):(l.take i ++ [x] ++ l.drop i).Pairwise (· < ·) ∧ (∀ y,y ∈ l.take i ++ [x] ++ l.drop i ↔ y ∈ l ∨ y = x) ∧ (l.take i ++ [x] ++ l.drop i).length ≤ l.length + 1:=by
 have hp2:=hp
 rw [← List.take_append_drop i l,List.pairwise_append] at hp2
 obtain ⟨p1,p2,p3⟩:=hp2
 refine ⟨?_,fun y => ?_,?_⟩
 ·rw [List.pairwise_append,List.pairwise_append]
  refine ⟨⟨p1,List.pairwise_singleton _ _,fun a ha b hb => ?_⟩,p2,fun a ha b hb => ?_⟩
  ·rw [List.mem_singleton] at hb
   subst hb
   exact h1 a ha
  ·rw [List.mem_append,List.mem_singleton] at ha
   rcases ha with ha | rfl
   ·exact p3 a ha b hb
   ·exact h2 b hb
 ·rw [List.mem_append,List.mem_append,List.mem_singleton]
  have:y ∈ l ↔ y ∈ l.take i ∨ y ∈ l.drop i:=by rw [← List.mem_append,List.take_append_drop]
  rw [this]
  constructor
  ·rintro ((h | h) | h)
   ·exact .inl (.inl h)
   ·exact .inr h
   ·exact .inl (.inr h)
  ·rintro ((h | h) | h)
   ·exact .inl (.inl h)
   ·exact .inr h
   ·exact .inl (.inr h)
 ·rw [List.length_append,List.length_append,List.length_take,List.length_drop,List.length_singleton]
  omega
theorem l1Put_l0 (l:List Int) (x:Int) (hp:l.Pairwise (· < ·)) (hL:l.length ≤ 4000000):∀ (d k i:Nat),l.length - i = d → i ≤ l.length → d < k → (∀ y ∈ l.take i,y < x) → ∃ r,spec_l1Put.l0 k l x (i:Int) = some r ∧ r.Pairwise (· < ·) ∧ (∀ y,y ∈ r ↔ y ∈ l ∨ y = x) ∧ r.length ≤ l.length + 1:=by
 intro d
 induction d with
 | zero =>
  intro k i h1 h2 h3 h4
  obtain ⟨k,rfl⟩:∃ m,k = m + 1:=⟨k - 1,by omega⟩
  obtain rfl:i = l.length:=by omega
  refine ⟨_,?_,ins_ok hp h4 (fun y hy => by rw [List.drop_length] at hy; cases hy)⟩
  simp only [spec_l1Put.l0,Option.bind_some,Int.toNat_natCast,List.nil_append,List.length_nil]
  rw [if_neg (by omega),if_pos (by omega),if_pos (by omega),if_pos (by rw [List.length_take]; omega),if_pos (by rw [List.length_take]; omega),if_pos (by rw [List.length_append,List.length_take,List.length_drop,List.length_singleton]; omega)]
 | succ d ih =>
  intro k i h1 h2 h3 h4
  obtain ⟨k,rfl⟩:∃ m,k = m + 1:=⟨k - 1,by omega⟩
  have hi:i < l.length:=by omega
  have e2:wrap64 ((i:Int) + 1) = ((i + 1:Nat):Int):=by unfold wrap64; omega
  simp only [spec_l1Put.l0,Option.bind_some,Int.toNat_natCast,List.nil_append,List.length_nil]
  rw [if_pos (by omega),if_pos (by omega),rd_nat l i hi,e2]
  by_cases hlt:l[i] < x
  ·rw [if_pos hlt]
   refine ih k (i + 1) (by omega) (by omega) (by omega) (fun y hy => ?_)
   rw [List.take_succ_eq_append_getElem hi,List.mem_append,List.mem_singleton] at hy
   rcases hy with hy | rfl
   ·exact h4 y hy
   ·exact hlt
  ·rw [if_neg hlt]
   by_cases he:l[i] = x
   ·rw [if_pos he]
    refine ⟨l,rfl,hp,fun y => ⟨fun h => .inl h,?_⟩,by omega⟩
    rintro (h | rfl)
    ·exact h
    ·rw [← he]; exact List.getElem_mem hi
   ·have hd:∀ y ∈ l.drop i,x < y:=fun y hy => by
     rw [List.drop_eq_getElem_cons hi] at hy
     have hp2:=hp
     rw [← List.take_append_drop i l,List.pairwise_append] at hp2
     have p2:=hp2.2.1
     rw [List.drop_eq_getElem_cons hi,List.pairwise_cons] at p2
     rcases List.mem_cons.1 hy with rfl | hy
     ·omega
     ·have:=p2.1 y hy; omega
    refine ⟨_,?_,ins_ok hp h4 hd⟩
    rw [if_neg he,if_pos (by omega),if_pos (by rw [List.length_take]; omega),if_pos (by rw [List.length_take]; omega),if_pos (by rw [List.length_append,List.length_take,List.length_drop,List.length_singleton]; omega)]
theorem l1Put_f (l:List Int) (x:Int) (hp:l.Pairwise (· < ·)) (hL:l.length ≤ 4000000) (k:Nat) (hk:l.length < k):∃ r,spec_l1Put.f k l x = some r ∧ r.Pairwise (· < ·) ∧ (∀ y,y ∈ r ↔ y ∈ l ∨ y = x) ∧ r.length ≤ l.length + 1:=by
 unfold spec_l1Put.f
 exact l1Put_l0 l x hp hL l.length k 0 (by omega) (by omega) hk (fun y hy => by rw [List.take_zero] at hy; cases hy)
theorem fiOwn_f (w h:Int) (a u:List Int) (ha:a.length ≤ 4000000) (hu:u.length ≤ 4000000):spec_fiOwn.f w h a u = some (w,h,a,u):=by
 unfold spec_fiOwn.f spec_l1Own.f
 simp only [Option.bind_some,List.nil_append,List.length_nil]
 rw [if_pos (by omega),if_pos (by omega),Option.bind_some,Option.bind_some]
theorem fiEdge_level {w h:Int} (g:GridOK w h) (a u:List Int) (x y:Int):spec_fiEdge.f w h a u false x y = some (wrap64 (wrap64 (y * w) + x),(decide (0 ≤ x) && decide (x ≤ w - 1)) && (decide (0 ≤ y) && decide (y ≤ h))):=by
 have w1:=g.w1
 have w4:=g.w4
 have e0:wrap64 (w - 1) = w - 1:=by unfold wrap64; omega
 unfold spec_fiEdge.f
 rw [if_neg (by decide),l1In_f,Option.bind_some,e0,l1In_f,Option.bind_some]
 cases (decide (0 ≤ x) && decide (x ≤ w - 1)) <;> simp
theorem fiEdge_upright {w h:Int} (g:GridOK w h) (a u:List Int) (x y:Int):spec_fiEdge.f w h a u true x y = some (wrap64 (wrap64 (y * wrap64 (w + 1)) + x),(decide (0 ≤ x) && decide (x ≤ w)) && (decide (0 ≤ y) && decide (y ≤ h - 1))):=by
 have h1:=g.h1
 have h4:=g.h4
 have e0:wrap64 (h - 1) = h - 1:=by unfold wrap64; omega
 unfold spec_fiEdge.f
 rw [if_pos rfl,l1In_f,Option.bind_some,e0,l1In_f,Option.bind_some]
 cases (decide (0 ≤ x) && decide (x ≤ w)) <;> simp
theorem rowA_mem {w h:Int} {M:Nat} (x:Int):x ∈ rowA w h M ↔ ∃ i:Nat,(i:Int) = x ∧ i < (w * (h + 1)).toNat ∧ M.testBit i = true:=setL_mem _ _ _
theorem rowU_mem {w h:Int} {M:Nat} (x:Int):x ∈ rowU w h M ↔ ∃ i:Nat,(i:Int) = x ∧ i < (h * (w + 1)).toNat ∧ M.testBit ((w * (h + 1)).toNat + i) = true:=setL_mem _ _ _
theorem or_bit (M e i:Nat):(M ||| 2 ^ e).testBit i = (M.testBit i || decide (e = i)):=by rw [Nat.testBit_or,Nat.testBit_two_pow]
theorem or_have {M e:Nat} (h:M.testBit e = true):M ||| 2 ^ e = M:=by
 apply Nat.eq_of_testBit_eq
 intro i
 rw [or_bit]
 by_cases hi:e = i
 ·subst hi; simp [h]
 ·simp [hi]
theorem level_lt {w h x y:Int} (g:GridOK w h) (hx0:0 ≤ x) (hx1:x ≤ w - 1) (hy0:0 ≤ y) (hy1:y ≤ h):0 ≤ y * w + x ∧ y * w + x < w * (h + 1) ∧ wrap64 (wrap64 (y * w) + x) = y * w + x:=by
 have w1:=g.w1
 have w4:=g.w4
 have h1:=g.h1
 have h4:=g.h4
 obtain ⟨p1,p2⟩:=prod_b (w:=w) (y:=y) w1 (by omega) hy0 (by omega)
 refine ⟨by omega,?_,?_⟩
 ·have c1:y = 0 ∨ y = 1 ∨ y = 2 ∨ y = 3 ∨ y = 4:=by omega
  have c2:h = 1 ∨ h = 2 ∨ h = 3 ∨ h = 4:=by omega
  rcases c2 with rfl | rfl | rfl | rfl <;> rcases c1 with rfl | rfl | rfl | rfl | rfl <;> omega
 ·have e1:wrap64 (y * w) = y * w:=by unfold wrap64; omega
  rw [e1]; unfold wrap64; omega
theorem upright_lt {w h x y:Int} (g:GridOK w h) (hx0:0 ≤ x) (hx1:x ≤ w) (hy0:0 ≤ y) (hy1:y ≤ h - 1):0 ≤ y * (w + 1) + x ∧ y * (w + 1) + x < h * (w + 1) ∧ wrap64 (wrap64 (y * wrap64 (w + 1)) + x) = y * (w + 1) + x:=by
 have w1:=g.w1
 have w4:=g.w4
 have h1:=g.h1
 have h4:=g.h4
 obtain ⟨p1,p2⟩:=prod_b (w:=w + 1) (y:=y) (by omega) (by omega) hy0 (by omega)
 have e3:wrap64 (w + 1) = w + 1:=by unfold wrap64; omega
 refine ⟨by omega,?_,?_⟩
 ·have c1:y = 0 ∨ y = 1 ∨ y = 2 ∨ y = 3:=by omega
  have c2:h = 1 ∨ h = 2 ∨ h = 3 ∨ h = 4:=by omega
  clear p1 p2 e3
  rcases c2 with rfl | rfl | rfl | rfl <;> rcases c1 with rfl | rfl | rfl | rfl <;> omega
 ·rw [e3]
  have e1:wrap64 (y * (w + 1)) = y * (w + 1):=by unfold wrap64; omega
  rw [e1]; unfold wrap64; omega
theorem fiPut_level {w h:Int} (g:GridOK w h) {M:Nat} (hM:M < 2 ^ figN w h) (k:Nat) (hk:1000000 < k) (x y:Int) (hx0:0 ≤ x) (hx1:x ≤ w - 1) (hy0:0 ≤ y) (hy1:y ≤ h) :
  spec_fiPut.f k w h (rowA w h M) (rowU w h M) false x y = some (w,h,rowA w h (M ||| 2 ^ (y * w + x).toNat),rowU w h (M ||| 2 ^ (y * w + x).toNat)):=by
 have lA:=rowA_len g M
 have lU:=rowU_len g M
 obtain ⟨l0,l1,l2⟩:=level_lt g hx0 hx1 hy0 hy1
 unfold spec_fiPut.f
 rw [fiOwn_f w h _ _ (by omega) (by omega),Option.bind_some,fiEdge_level g,Option.bind_some,fiHas_level g (figB_rows g M) (by omega) k hk x y hx0 (by omega) hy0 hy1,Option.bind_some,figMask_rows g hM,l2]
 obtain ⟨e,he⟩:=Int.eq_ofNat_of_zero_le l0
 rw [he,Int.toNat_natCast]
 have hU:rowU w h (M ||| 2 ^ e) = rowU w h M:=setL_congr fun i hi => by rw [or_bit,decide_eq_false (by omega),Bool.or_false]
 cases hb:M.testBit e with
 | true => rw [if_pos rfl,or_have hb]
 | false =>
  obtain ⟨r,hr,hrp,hrm,-⟩:=l1Put_f (rowA w h M) (e:Int) (setL_pw _ _) (by omega) k (by omega)
  have hre:r = rowA w h (M ||| 2 ^ e):=rising_ext hrp (setL_pw _ _) fun z => by
   rw [hrm]
   constructor
   ·rintro (h1 | rfl)
    ·rw [rowA_mem] at h1 ⊢
     obtain ⟨i,hi,h2,h3⟩:=h1
     exact ⟨i,hi,h2,by rw [or_bit,h3]; rfl⟩
    ·rw [rowA_mem]
     exact ⟨e,rfl,by omega,by rw [or_bit]; simp⟩
   ·intro h1
    rw [rowA_mem] at h1
    obtain ⟨i,hi,h2,h3⟩:=h1
    rw [or_bit,Bool.or_eq_true,decide_eq_true_iff] at h3
    rcases h3 with h3 | h3
    ·exact .inl ((rowA_mem z).2 ⟨i,hi,h2,h3⟩)
    ·exact .inr (by rw [← hi,h3])
  rw [if_neg (by simp),if_neg (by simp),hr,Option.bind_some,hre,hU]
theorem fiPut_upright {w h:Int} (g:GridOK w h) {M:Nat} (hM:M < 2 ^ figN w h) (k:Nat) (hk:1000000 < k) (x y:Int) (hx0:0 ≤ x) (hx1:x ≤ w) (hy0:0 ≤ y) (hy1:y ≤ h - 1) :
  spec_fiPut.f k w h (rowA w h M) (rowU w h M) true x y = some (w,h,rowA w h (M ||| 2 ^ ((w * (h + 1)).toNat + (y * (w + 1) + x).toNat)),rowU w h (M ||| 2 ^ ((w * (h + 1)).toNat + (y * (w + 1) + x).toNat))):=by
 have lA:=rowA_len g M
 have lU:=rowU_len g M
 obtain ⟨l0,l1,l2⟩:=upright_lt g hx0 hx1 hy0 hy1
 unfold spec_fiPut.f
 rw [fiOwn_f w h _ _ (by omega) (by omega),Option.bind_some,fiEdge_upright g,Option.bind_some,fiHas_upright g (figB_rows g M) (by omega) k hk x y hx0 hx1 hy0 (by omega),Option.bind_some,figMask_rows g hM,l2]
 obtain ⟨e,he⟩:=Int.eq_ofNat_of_zero_le l0
 rw [he,Int.toNat_natCast]
 have hA:rowA w h (M ||| 2 ^ ((w * (h + 1)).toNat + e)) = rowA w h M:=setL_congr fun i hi => by rw [or_bit,decide_eq_false (by omega),Bool.or_false]
 cases hb:M.testBit ((w * (h + 1)).toNat + e) with
 | true => rw [if_pos rfl,or_have hb]
 | false =>
  obtain ⟨r,hr,hrp,hrm,-⟩:=l1Put_f (rowU w h M) (e:Int) (setL_pw _ _) (by omega) k (by omega)
  have hre:r = rowU w h (M ||| 2 ^ ((w * (h + 1)).toNat + e)):=rising_ext hrp (setL_pw _ _) fun z => by
   rw [hrm]
   constructor
   ·rintro (h1 | rfl)
    ·rw [rowU_mem] at h1 ⊢
     obtain ⟨i,hi,h2,h3⟩:=h1
     exact ⟨i,hi,h2,by rw [or_bit,h3]; rfl⟩
    ·rw [rowU_mem]
     exact ⟨e,rfl,by omega,by rw [or_bit]; simp⟩
   ·intro h1
    rw [rowU_mem] at h1
    obtain ⟨i,hi,h2,h3⟩:=h1
    rw [or_bit,Bool.or_eq_true,decide_eq_true_iff] at h3
    rcases h3 with h3 | h3
    ·exact .inl ((rowU_mem z).2 ⟨i,hi,h2,h3⟩)
    ·exact .inr (by rw [← hi]; omega)
  rw [if_neg (by simp),if_pos rfl,hr,Option.bind_some,hre,hA]
theorem fiThose_l0 (b l:List Int) (hb:b.length ≤ 4000000) (hL:l.length ≤ 4000000) (k0:Nat) (hk0:b.length < k0):∀ (d k i:Nat) (acc:List Int),l.length - i = d → i ≤ l.length → d + k0 < k → acc.length ≤ i →
  spec_fiThose.l0 k b false acc l (l.length:Int) (i:Int) = some (acc ++ (l.drop i).filter fun x => !decide (x ∈ b)):=by
 intro d
 induction d with
 | zero =>
  intro k i acc h1 h2 h3 h4
  obtain ⟨k,rfl⟩:∃ m,k = m + 1:=⟨k - 1,by omega⟩
  simp only [spec_fiThose.l0]
  rw [if_neg (by omega),List.drop_of_length_le (by omega),List.filter_nil,List.append_nil]
 | succ d ih =>
  intro k i acc h1 h2 h3 h4
  obtain ⟨k,rfl⟩:∃ m,k = m + 1:=⟨k - 1,by omega⟩
  have hi:i < l.length:=by omega
  have e2:wrap64 ((i:Int) + 1) = ((i + 1:Nat):Int):=by unfold wrap64; omega
  simp only [spec_fiThose.l0]
  rw [if_pos (by omega),if_pos (by omega),if_pos (by omega),rd_nat l i hi,l1Has_f b _ hb k (by omega),Option.bind_some,e2,List.drop_eq_getElem_cons hi]
  by_cases hm:l[i] ∈ b
  ·rw [decide_eq_true hm,if_neg (by simp),List.filter_cons_of_neg (by simp [hm])]
   exact ih k (i + 1) acc (by omega) (by omega) (by omega) (by omega)
  ·rw [decide_eq_false hm,if_pos (by simp),if_pos (by omega),ih k (i + 1) _ (by omega) (by omega) (by omega) (by simp; omega),List.filter_cons_of_pos (by simp [hm]),List.append_assoc]
   rfl
theorem fiThose_f (l b:List Int) (hb:b.length ≤ 1000000) (hL:l.length ≤ 1000000) (k:Nat) (hk:3000000 < k):spec_fiThose.f k l b false = some (l.filter fun x => !decide (x ∈ b)):=by
 unfold spec_fiThose.f
 have:=fiThose_l0 b l (by omega) (by omega) (b.length + 1) (by omega) l.length k 0 [] (by omega) (by omega) (by omega) (Nat.le_refl _)
 rw [List.drop_zero,List.nil_append] at this
 exact this
theorem fiLess_f {w h w2 h2:Int} (g:GridOK w h) {M N:Nat} (k:Nat) (hk:3000000 < k):spec_fiLess.f k w h (rowA w h M) (rowU w h M) w2 h2 (rowA w h N) (rowU w h N) = some (w,h,rowA w h (diffN M N),rowU w h (diffN M N)):=by
 have lA:=rowA_len g M
 have lU:=rowU_len g M
 have lA2:=rowA_len g N
 have lU2:=rowU_len g N
 unfold spec_fiLess.f
 rw [fiThose_f _ _ (by omega) (by omega) k hk,Option.bind_some,fiThose_f _ _ (by omega) (by omega) k hk,Option.bind_some]
 have eA:(rowA w h M).filter (fun x => !decide (x ∈ rowA w h N)) = rowA w h (diffN M N):=by
  show (setL _ _).filter _ = setL _ _
  rw [setL_filter]
  refine setL_congr fun i hi => ?_
  rw [diffN_test]
  congr 2
  rw [Bool.eq_iff_iff,decide_eq_true_iff]
  exact rowA_in hi
 have eU:(rowU w h M).filter (fun x => !decide (x ∈ rowU w h N)) = rowU w h (diffN M N):=by
  show (setL _ _).filter _ = setL _ _
  rw [setL_filter]
  refine setL_congr fun i hi => ?_
  rw [diffN_test]
  congr 2
  rw [Bool.eq_iff_iff,decide_eq_true_iff]
  exact rowU_in hi
 rw [eA,eU]


theorem fiUpTo_l0 (n:Nat) (hn:n ≤ 1000000):∀ (d k i:Nat),n - i = d → i ≤ n → d < k → spec_fiUpTo.l0 k (n:Int) (setL i fun _ => true) (i:Int) = some (setL n fun _ => true):=by
  intro d
  induction d with
  | zero =>
    intro k i h1 h2 h3
    obtain ⟨k,rfl⟩:∃ m,k = m + 1:=⟨k - 1,by omega⟩
    obtain rfl:i = n:=by omega
    simp only [spec_fiUpTo.l0]
    rw [if_neg (by omega)]
  | succ d ih =>
    intro k i h1 h2 h3
    obtain ⟨k,rfl⟩:∃ m,k = m + 1:=⟨k - 1,by omega⟩
    have e2:wrap64 ((i:Int) + 1) = ((i + 1:Nat):Int):=by unfold wrap64; omega
    have hl:=setL_len i fun _ => true
    have hs:=setL_succ i fun _ => true
    rw [if_pos rfl] at hs
    simp only [spec_fiUpTo.l0]
    rw [if_pos (by omega),if_pos (by omega),e2,← hs]
    exact ih k (i + 1) (by omega) (by omega) (by omega)
theorem fiUpTo_f (n:Nat) (hn:n ≤ 1000000) (k:Nat) (hk:n < k):spec_fiUpTo.f k (n:Int) = some (setL n fun _ => true):=by
  unfold spec_fiUpTo.f
  exact fiUpTo_l0 n hn n k 0 (by omega) (by omega) hk
theorem fiFull_f {w h:Int} (g:GridOK w h) (k:Nat) (hk:1000000 < k):spec_fiFull.f k w h = some (w,h,rowA w h (2 ^ figN w h - 1),rowU w h (2 ^ figN w h - 1)):=by
  obtain ⟨c1,c2,c3,c4⟩:=area_bounds g.w1 g.w4 g.h1 g.h4
  have w1:=g.w1
  have w4:=g.w4
  have h1:=g.h1
  have h4:=g.h4
  have e1:wrap64 (h + 1) = h + 1:=by unfold wrap64; omega
  have e2:wrap64 (w + 1) = w + 1:=by unfold wrap64; omega
  have e3:wrap64 (w * (h + 1)) = (((w * (h + 1)).toNat:Nat):Int):=by unfold wrap64; omega
  have e4:wrap64 ((w + 1) * h) = (((h * (w + 1)).toNat:Nat):Int):=by rw [Int.mul_comm]; unfold wrap64; omega
  unfold spec_fiFull.f
  rw [e1,e2,e3,e4,fiUpTo_f _ (by omega) k (by omega),Option.bind_some,fiUpTo_f _ (by omega) k (by omega),Option.bind_some]
  have eA:setL (w * (h + 1)).toNat (fun _ => true) = rowA w h (2 ^ figN w h - 1):=setL_congr fun i hi => by
    rw [Nat.testBit_two_pow_sub_one]
    exact (decide_eq_true (by unfold figN; omega)).symm
  have eU:setL (h * (w + 1)).toNat (fun _ => true) = rowU w h (2 ^ figN w h - 1):=setL_congr fun i hi => by
    rw [Nat.testBit_two_pow_sub_one]
    exact (decide_eq_true (by unfold figN; omega)).symm
  rw [eA,eU]
theorem fiMissing_f {w h:Int} (g:GridOK w h) {M:Nat} (k:Nat) (hk:3000000 < k):spec_fiMissing.f k w h (rowA w h M) (rowU w h M) = some (w,h,rowA w h (diffN (2 ^ figN w h - 1) M),rowU w h (diffN (2 ^ figN w h - 1) M)):=by
  unfold spec_fiMissing.f
  rw [fiFull_f g k (by omega),Option.bind_some,fiLess_f g k hk,Option.bind_some]


theorem grid_cases {w h:Int} (g:GridOK w h):(w = 1 ∨ w = 2 ∨ w = 3 ∨ w = 4) ∧ (h = 1 ∨ h = 2 ∨ h = 3 ∨ h = 4):=by
  have w1:=g.w1
  have w4:=g.w4
  have h1:=g.h1
  have h4:=g.h4
  constructor <;> omega

def nxC (c:S84) (d:Int):S84:=if d = 110 then ⟨c.f0,c.f1 - 1⟩ else if d = 101 then ⟨c.f0 + 1,c.f1⟩ else if d = 115 then ⟨c.f0,c.f1 + 1⟩ else ⟨c.f0 - 1,c.f1⟩
def four4 (d:Int):Prop:=d = 110 ∨ d = 101 ∨ d = 115 ∨ d = 119
def edC (w h:Int) (c:S84) (d:Int):Option Nat:=btwE w h c.f0 c.f1 d
inductive Reach (w h:Int) (m:Nat) (c:S84):S84 → Prop
  | refl:Reach w h m c c
  | step {p:S84} {d:Int} {e:Nat}:Reach w h m c p → four4 d → edC w h p d = some e → m.testBit e = true → Reach w h m c (nxC p d)
theorem grid_in {w h:Int} {c:S84} {d:Int} {e:Nat} (he:edC w h c d = some e):inC w h c.f0 c.f1:=by
  unfold edC btwE at he
  split at he
  · assumption
  · cases he
theorem next_in {w h:Int} {c:S84} {d:Int} {e:Nat} (hd:four4 d) (he:edC w h c d = some e):inC w h (nxC c d).f0 (nxC c d).f1:=by
  have hc:=grid_in he
  unfold edC btwE at he
  rw [if_pos hc] at he
  obtain ⟨⟨h1,h2⟩,h3,h4⟩:=hc
  unfold nxC inC
  rcases hd with rfl | rfl | rfl | rfl
  · simp only [if_pos] at he ⊢
    split at he
    · (try simp only); omega
    · cases he
  · simp only [if_pos,show ¬ (101:Int) = 110 by decide,if_neg,if_false] at he ⊢
    split at he
    · (try simp only); omega
    · cases he
  · simp only [if_pos,show ¬ (115:Int) = 110 by decide,show ¬ (115:Int) = 101 by decide,if_false] at he ⊢
    split at he
    · (try simp only); omega
    · cases he
  · simp only [show ¬ (119:Int) = 110 by decide,show ¬ (119:Int) = 101 by decide,show ¬ (119:Int) = 115 by decide,if_false] at he ⊢
    split at he
    · (try simp only); omega
    · cases he
theorem ed_place {w h:Int} {c:S84} {d:Int} {e:Nat} (hd:four4 d) (he:edC w h c d = some e) :
    (∃ x y:Int,0 ≤ x ∧ x < w ∧ 0 ≤ y ∧ y ≤ h ∧ e = (y * w + x).toNat ∧ ((c = ⟨x,y⟩ ∧ d = 101) ∨ (c = ⟨x + 1,y⟩ ∧ d = 119))) ∨
    (∃ x y:Int,0 ≤ x ∧ x ≤ w ∧ 0 ≤ y ∧ y < h ∧ e = (w * (h + 1)).toNat + (y * (w + 1) + x).toNat ∧ ((c = ⟨x,y⟩ ∧ d = 115) ∨ (c = ⟨x,y + 1⟩ ∧ d = 110))):=by
  have hc:=grid_in he
  unfold edC btwE at he
  rw [if_pos hc] at he
  obtain ⟨⟨h1,h2⟩,h3,h4⟩:=hc
  obtain ⟨x,y⟩:=c
  simp only at *
  rcases hd with rfl | rfl | rfl | rfl
  · simp only [if_pos] at he
    split at he
    · injection he with he
      exact .inr ⟨x,y - 1,h1,h2,by omega,by omega,he.symm,.inr ⟨by rw [show y - 1 + 1 = y by omega],rfl⟩⟩
    · cases he
  · simp only [if_pos,show ¬ (101:Int) = 110 by decide,if_false] at he
    split at he
    · injection he with he
      exact .inl ⟨x,y,h1,by assumption,h3,h4,he.symm,.inl ⟨rfl,rfl⟩⟩
    · cases he
  · simp only [if_pos,show ¬ (115:Int) = 110 by decide,show ¬ (115:Int) = 101 by decide,if_false] at he
    split at he
    · injection he with he
      exact .inr ⟨x,y,h1,h2,h3,by assumption,he.symm,.inl ⟨rfl,rfl⟩⟩
    · cases he
  · simp only [show ¬ (119:Int) = 110 by decide,show ¬ (119:Int) = 101 by decide,show ¬ (119:Int) = 115 by decide,if_false] at he
    split at he
    · injection he with he
      exact .inl ⟨x - 1,y,by omega,by omega,h3,h4,he.symm,.inr ⟨by rw [show x - 1 + 1 = x by omega],rfl⟩⟩
    · cases he
theorem lev_uniq {w x y x' y':Int} (hw:w = 1 ∨ w = 2 ∨ w = 3 ∨ w = 4 ∨ w = 5) (h1:0 ≤ x) (h2:x < w) (h3:0 ≤ y) (h1':0 ≤ x') (h2':x' < w) (h3':0 ≤ y') (he:(y * w + x).toNat = (y' * w + x').toNat):x = x' ∧ y = y':=by
  rcases hw with rfl | rfl | rfl | rfl | rfl <;> omega
theorem lev_lt {w h x y:Int} (hw:w = 1 ∨ w = 2 ∨ w = 3 ∨ w = 4 ∨ w = 5) (h2:x < w) (h3:0 ≤ y) (h4:y ≤ h) (h1:0 ≤ x):(y * w + x).toNat < (w * (h + 1)).toNat:=by
  rcases hw with rfl | rfl | rfl | rfl | rfl <;> omega
theorem ed_lt {w h:Int} (g:GridOK w h) {p:S84} {d:Int} {e:Nat} (hd:four4 d) (hp:edC w h p d = some e):e < figN w h:=by
  have cw:=(grid_cases g).1
  unfold figN
  rcases ed_place hd hp with ⟨x,y,h1,h2,h3,h4,h5,h6⟩ | ⟨x,y,h1,h2,h3,h4,h5,h6⟩
  · have:=lev_lt (h:=h) (by omega) h2 h3 h4 h1
    omega
  · have:=lev_lt (w:=w + 1) (h:=h - 1) (by omega) (by omega:x < w + 1) h3 (by omega) h1
    rw [show h - 1 + 1 = h by omega,Int.mul_comm (w + 1) h] at this
    omega

def dirs4:List Int:=[110,101,115,119]
theorem stepB_iff {w h:Int} {m:Nat} {c:S84} {d:Int}:stepB w h m c.f0 c.f1 d = true ↔ ∃ e,edC w h c d = some e ∧ m.testBit e = true:=by
  unfold stepB edC
  cases btwE w h c.f0 c.f1 d with
  | none => exact ⟨fun h => (by cases h),fun ⟨e,h,_⟩ => (by cases h)⟩
  | some e => exact ⟨fun h => ⟨e,rfl,h⟩,fun ⟨e',h,h2⟩ => by injection h with h; rw [h]; exact h2⟩
theorem liNext4 {w h:Int} (g:GridOK w h) {m:Nat} (hm:m < 2 ^ figN w h) (k:Nat) (hk:1000000 < k) (c:S84) (hc:inC w h c.f0 c.f1) (i:Nat) (hi:i < dirs4.length) :
    spec_liNext.f k w h (rowA w h m) (rowU w h m) c.f0 c.f1 (i:Int) = some ((nxC c dirs4[i]).f0,(nxC c dirs4[i]).f1,stepB w h m c.f0 c.f1 dirs4[i]):=by
  have lA:=rowA_len g m
  have lU:=rowU_len g m
  obtain ⟨h0,h1,h2,h3⟩:=liNext_f g (figB_rows g m) (by omega) (by omega) k hk c.f0 c.f1 hc
  rw [figMask_rows g hm] at h0 h1 h2 h3
  have hi4:i < 4:=hi
  rcases (show i = 0 ∨ i = 1 ∨ i = 2 ∨ i = 3 by omega) with rfl | rfl | rfl | rfl
  · exact h0
  · exact h1
  · exact h2
  · exact h3

end Go.Proofs.YtehjfaddhmdicaaDoor.P
namespace Go.Proofs.YtehjfaddhmdicaaDoor.P
open Go.RowKit Go.Proofs.YtehjfaddhmdicaaDoorW.PrintWords Go.Proofs.YtehjfaddhmdicaaDoorW.PrintLast Go.Proofs.YtehjfaddhmdicaaDoorW.PrintMore
attribute [local go_sem] max2_int min2_int max_two min_two max_three min_three max_four min_four   -- for this text's walks alone
set_option linter.unusedVariables false
set_option linter.unusedSimpArgs false

def step4 (b:UInt8):Bool:=b == 110 || b == 101 || b == 115 || b == 119
def drawN (w h:Int):S84 → List UInt8 → Nat → Option Nat
 | _,[],m => some m
 | c,b :: t,m => if step4 b = true then (match edC w h c ((b.toNat:Nat):Int) with
  | none => none
  | some e => if m.testBit e = true then none else drawN w h (nxC c ((b.toNat:Nat):Int)) t (m ||| 2 ^ e)) else none
def dirI (b:Int):Int:=if b = 110 then 0 else if b = 101 then 1 else if b = 115 then 2 else if b = 119 then 3 else -1
def dD (j:Nat):Int:=if j = 0 then 110 else if j = 1 then 101 else if j = 2 then 115 else 119
theorem step4_iff (b:UInt8):step4 b = true ↔ ∃ i:Nat,i < 4 ∧ dirI ((b.toNat:Nat):Int) = (i:Int) ∧ dD i = ((b.toNat:Nat):Int):=by
 have hall:∀ b:Fin 256,(step4 (UInt8.ofNat b.val) = true ↔ ∃ i:Fin 4,dirI ((b.val:Nat):Int) = (i.val:Int) ∧ dD i.val = ((b.val:Nat):Int)):=by decide +kernel
 have h:=hall ⟨b.toNat,b.toNat_lt⟩
 have e:UInt8.ofNat b.toNat = b:=UInt8.ofNat_toNat
 dsimp only at h
 rw [e] at h
 rw [h]
 constructor
 ·rintro ⟨i,h1,h2⟩; exact ⟨i.val,i.isLt,h1,h2⟩
 ·rintro ⟨i,h0,h1,h2⟩; exact ⟨⟨i,h0⟩,h1,h2⟩
theorem step4_no (b:UInt8) (h:step4 b = false):dirI ((b.toNat:Nat):Int) < 0:=by
 have hall:∀ b:Fin 256,step4 (UInt8.ofNat b.val) = false → dirI ((b.val:Nat):Int) < 0:=by decide +kernel
 have h2:=hall ⟨b.toNat,b.toNat_lt⟩
 have e:UInt8.ofNat b.toNat = b:=UInt8.ofNat_toNat
 dsimp only at h2
 rw [e] at h2
 exact h2 h
theorem step4_four (b:UInt8) (h:step4 b = true):four4 ((b.toNat:Nat):Int):=by
 obtain ⟨i,h0,-,h2⟩:=(step4_iff b).1 h
 unfold four4
 rw [← h2]
 rcases (show i = 0 ∨ i = 1 ∨ i = 2 ∨ i = 3 by omega) with rfl | rfl | rfl | rfl <;> decide
section
variable {w h:Int}
theorem dir_at (s:ByteArray) (j:Nat) (hj:j < 4):bt (⟨#[110,101,115,119]⟩:ByteArray) (j:Int) = dD j:=by
 rcases (show j = 0 ∨ j = 1 ∨ j = 2 ∨ j = 3 by omega) with rfl | rfl | rfl | rfl <;> rfl
theorem ldr_dir (s:ByteArray) (i:Nat) (hi:i < s.size) (b:Int) (hb:bt s (i:Int) = b) (K:Nat) (X Y f0 f1 o0 o1:Int) (fa fu oa ou:List Int) :
  spec_liDraw.l1 (K + 4) s (i:Int) (-1) 0 X Y f0 f1 fa fu o0 o1 oa ou = spec_liDraw.l1 K s (i:Int) (dirI b) 4 X Y f0 f1 fa fu o0 o1 oa ou:=by
 have c0:(0:Int) ≤ (i:Int):=Int.natCast_nonneg _
 have c1:(i:Int) < (s.size:Int):=Int.ofNat_lt.2 hi
 have st:∀ (K j:Nat) (x:Int),j < 4 → spec_liDraw.l1 (K + 1) s (i:Int) x (j:Int) X Y f0 f1 fa fu o0 o1 oa ou = spec_liDraw.l1 K s (i:Int) (if b = dD j then (j:Int) else x) ((j + 1:Nat):Int) X Y f0 f1 fa fu o0 o1 oa ou:=by
  intro K j x hj
  have e1:wrap64 ((j:Int) + 1) = ((j + 1:Nat):Int):=by unfold wrap64; omega
  rw [spec_liDraw.l1,if_pos (show (j:Int) < 4 by omega),if_pos c0,if_pos c1]
  unfold spec_liDirs.f
  rw [Option.bind_some,if_pos (Int.natCast_nonneg _),if_pos (show (j:Int) < ((⟨#[110,101,115,119]⟩:ByteArray).size:Int) from (show (j:Int) < 4 by omega)),dir_at s j hj,hb,e1]
  by_cases hd:b = dD j
  ·rw [if_pos hd,if_pos hd]
  ·rw [if_neg hd,if_neg hd]
 have s0:=st (K + 3) 0 (-1) (by omega)
 rw [show spec_liDraw.l1 (K + 4) s (i:Int) (-1) 0 X Y f0 f1 fa fu o0 o1 oa ou = _ from s0,st (K + 2) 1 _ (by omega),st (K + 1) 2 _ (by omega),st K 3 _ (by omega)]
 have e:(if b = dD 3 then ((3:Nat):Int) else if b = dD 2 then ((2:Nat):Int) else if b = dD 1 then ((1:Nat):Int) else if b = dD 0 then ((0:Nat):Int) else -1) = dirI b:=by
  show (if b = 119 then (3:Int) else if b = 115 then 2 else if b = 101 then 1 else if b = 110 then 0 else -1) = dirI b
  unfold dirI
  by_cases h0:b = 110
  ·subst h0; decide
  ·by_cases h1:b = 101
   ·subst h1; decide
   ·by_cases h2:b = 115
    ·subst h2; decide
    ·rw [if_neg h2,if_neg h1,if_neg h0,if_neg h0,if_neg h1,if_neg h2]
 rw [e]
 rfl
theorem rows_zero (w h:Int):rowA w h 0 = [] ∧ rowU w h 0 = []:=by
 have z:∀ (n:Nat) (p:Nat → Bool),(∀ i,p i = false) → setL n p = []:=fun n p hp => by
  unfold setL
  rw [List.filter_eq_nil_iff.2 (fun i _ => by rw [hp i]; decide),List.map_nil]
 exact ⟨z _ _ fun i => Nat.zero_testBit i,z _ _ fun i => Nat.zero_testBit _⟩
theorem liEdge_f (g:GridOK w h) (k:Nat) (hk:1000000 < k) (a u:List Int) {c:S84} {i:Nat} (hi:i < 4) {e:Nat} (he:edC w h c (dD i) = some e):spec_liEdge.f k w h a u c.f0 c.f1 (i:Int) = some (w,h,rowA w h (2 ^ e),rowU w h (2 ^ e)):=by
 have hc:=grid_in he
 obtain ⟨⟨h1,h2⟩,h3,h4⟩:=id hc
 have w4:=g.w4
 have hh4:=g.h4
 have hp:(0:Nat) < 2 ^ figN w h:=Nat.two_pow_pos _
 obtain ⟨r1,r2⟩:=rows_zero w h
 have eL:∀ x y:Int,0 ≤ x → x ≤ w - 1 → 0 ≤ y → y ≤ h → spec_fiPut.f k w h [] [] false x y = some (w,h,rowA w h (2 ^ (y * w + x).toNat),rowU w h (2 ^ (y * w + x).toNat)):=fun x y a1 a2 a3 a4 => by
  have:=fiPut_level g hp k hk x y a1 a2 a3 a4
  rw [r1,r2,Nat.zero_or] at this
  exact this
 have eU:∀ x y:Int,0 ≤ x → x ≤ w → 0 ≤ y → y ≤ h - 1 → spec_fiPut.f k w h [] [] true x y = some (w,h,rowA w h (2 ^ ((w * (h + 1)).toNat + (y * (w + 1) + x).toNat)),rowU w h (2 ^ ((w * (h + 1)).toNat + (y * (w + 1) + x).toNat))):=fun x y a1 a2 a3 a4 => by
  have:=fiPut_upright g hp k hk x y a1 a2 a3 a4
  rw [r1,r2,Nat.zero_or] at this
  exact this
 have wy:wrap64 (c.f1 - 1) = c.f1 - 1:=by unfold wrap64; omega
 have wx:wrap64 (c.f0 - 1) = c.f0 - 1:=by unfold wrap64; omega
 unfold edC btwE at he
 rw [if_pos hc] at he
 rcases (show i = 0 ∨ i = 1 ∨ i = 2 ∨ i = 3 by omega) with rfl | rfl | rfl | rfl
 ·have he:(if 1 ≤ c.f1 then some ((w * (h + 1)).toNat + ((c.f1 - 1) * (w + 1) + c.f0).toNat) else none) = some e:=he
  by_cases hh:1 ≤ c.f1
  ·rw [if_pos hh] at he
   injection he with he
   unfold spec_liEdge.f
   rw [if_pos (show ((0:Nat):Int) = 0 from rfl),wy,eU _ _ h1 h2 (by omega) (by omega),Option.bind_some,he]
  ·rw [if_neg hh] at he; cases he
 ·have he:(if c.f0 < w then some (c.f1 * w + c.f0).toNat else none) = some e:=he
  by_cases hh:c.f0 < w
  ·rw [if_pos hh] at he
   injection he with he
   unfold spec_liEdge.f
   rw [if_neg (show ¬ ((1:Nat):Int) = 0 by decide),if_pos (show ((1:Nat):Int) = 1 from rfl),eL _ _ h1 (by omega) h3 h4,Option.bind_some,he]
  ·rw [if_neg hh] at he; cases he
 ·have he:(if c.f1 < h then some ((w * (h + 1)).toNat + (c.f1 * (w + 1) + c.f0).toNat) else none) = some e:=he
  by_cases hh:c.f1 < h
  ·rw [if_pos hh] at he
   injection he with he
   unfold spec_liEdge.f
   rw [if_neg (show ¬ ((2:Nat):Int) = 0 by decide),if_neg (show ¬ ((2:Nat):Int) = 1 by decide),if_pos (show ((2:Nat):Int) = 2 from rfl),eU _ _ h1 h2 h3 (by omega),Option.bind_some,he]
  ·rw [if_neg hh] at he; cases he
 ·have he:(if 1 ≤ c.f0 then some (c.f1 * w + (c.f0 - 1)).toNat else none) = some e:=he
  by_cases hh:1 ≤ c.f0
  ·rw [if_pos hh] at he
   injection he with he
   unfold spec_liEdge.f
   rw [if_neg (show ¬ ((3:Nat):Int) = 0 by decide),if_neg (show ¬ ((3:Nat):Int) = 1 by decide),if_neg (show ¬ ((3:Nat):Int) = 2 by decide),wx,eL _ _ (by omega) (by omega) h3 h4,Option.bind_some,he]
  ·rw [if_neg hh] at he; cases he
theorem diff_diff {n m e:Nat} (hm:m < 2 ^ n) (he:e < n):diffN (2 ^ n - 1) (diffN (diffN (2 ^ n - 1) m) (2 ^ e)) = m ||| 2 ^ e:=by
 apply Nat.eq_of_testBit_eq
 intro i
 rw [diffN_test,diffN_test,diffN_test,Nat.testBit_or,Nat.testBit_two_pow_sub_one,Nat.testBit_two_pow]
 by_cases hi:i < n
 ·rw [decide_eq_true hi]
  cases m.testBit i <;> by_cases h2:e = i <;> simp [h2]
 ·have hmi:m.testBit i = false:=Nat.testBit_lt_two_pow (Nat.lt_of_lt_of_le hm (Nat.pow_le_pow_right (by omega) (by omega)))
  rw [decide_eq_false hi,hmi,decide_eq_false (show ¬ e = i by omega)]
  rfl
def drawO (w h:Int) (o:Option Nat):Option (Int × Int × List Int × List Int × Bool):=match o with
 | some M => some (w,h,rowA w h M,rowU w h M,true)
 | none => some (0,0,([]:List Int),([]:List Int),false)
theorem ldr_l0 (g:GridOK w h) (s:ByteArray) (hs:s.size ≤ 1000000):∀ (d k i:Nat) (c:S84) (m:Nat),s.size - i = d → i ≤ s.size → inC w h c.f0 c.f1 → m < 2 ^ figN w h → 6 * d + 3000100 < k →
  spec_liDraw.l0 k s (i:Int) c.f0 c.f1 w h (rowA w h (2 ^ figN w h - 1)) (rowU w h (2 ^ figN w h - 1)) w h (rowA w h m) (rowU w h m) = drawO w h (drawN w h c (s.data.toList.drop i) m):=by
 have hlen:s.data.toList.length = s.size:=by simp
 intro d
 induction d with
 | zero =>
  intro k i c m h1 h2 h3 h4 h5
  obtain ⟨k,rfl⟩:∃ q,k = q + 1:=⟨k - 1,by omega⟩
  obtain rfl:i = s.size:=by omega
  rw [spec_liDraw.l0,if_neg (Int.lt_irrefl _),List.drop_of_length_le (by omega)]
  rfl
 | succ d ih =>
  intro k i c m h1 h2 h3 h4 h5
  obtain ⟨k,rfl⟩:∃ q,k = q + 6:=⟨k - 6,by omega⟩
  have hi:i < s.size:=by omega
  have hiL:i < s.data.toList.length:=by omega
  have ih:=fun (c:S84) (m:Nat) (q1:inC w h c.f0 c.f1) (q2:m < 2 ^ figN w h) => ih k (i + 1) c m (by omega) (by omega) q1 q2 (by omega)
  have e1:wrap64 ((i:Int) + 1) = ((i + 1:Nat):Int):=by clear ih h4 hlen hiL h5; unfold wrap64; omega
  have hk1:1000000 < k:=by omega
  have hk3:3000000 < k:=by omega
  have hbt:bt s (i:Int) = ((s.data.toList[i].toNat:Nat):Int):=by
   unfold bt
   rw [Int.toNat_natCast,dif_pos hi]
   rfl
  rw [spec_liDraw.l0,if_pos (Int.ofNat_lt.2 hi),show k + 5 = (k + 1) + 4 from rfl,ldr_dir s i hi _ hbt,List.drop_eq_getElem_cons hiL,spec_liDraw.l1,if_neg (by decide),drawN]
  cases hst:step4 s.data.toList[i] with
  | false =>
   rw [if_pos (step4_no _ hst),if_neg (by decide)]
   rfl
  | true =>
   obtain ⟨j,j4,jd,jb⟩:=(step4_iff _).1 hst
   have hF:2 ^ figN w h - 1 < 2 ^ figN w h:=Nat.sub_lt (Nat.two_pow_pos _) (by decide)
   have hjd:dirs4[j]'j4 = dD j:=by
    rcases (show j = 0 ∨ j = 1 ∨ j = 2 ∨ j = 3 by omega) with rfl | rfl | rfl | rfl <;> rfl
   have n1:=liNext4 g hF k hk1 c h3 j j4
   have n2:=liNext4 g h4 k hk1 c h3 j j4
   rw [hjd] at n1 n2
   rw [jd,if_neg (show ¬ (j:Int) < 0 by omega),if_pos rfl,n1,Option.bind_some,← jb]
   dsimp only
   have hfour:four4 (dD j):=by rw [jb]; exact step4_four _ hst
   cases hed:edC w h c (dD j) with
   | none =>
    have hs1:stepB w h (2 ^ figN w h - 1) c.f0 c.f1 (dD j) = false:=by
     rw [Bool.eq_false_iff]
     intro q
     obtain ⟨e,h6,-⟩:=stepB_iff.1 q
     rw [hed] at h6; cases h6
    rw [if_neg (by rw [hs1]; decide)]
    rfl
   | some e =>
    have helt:=ed_lt g hfour hed
    have hs1:stepB w h (2 ^ figN w h - 1) c.f0 c.f1 (dD j) = true:=stepB_iff.2 ⟨e,hed,by rw [Nat.testBit_two_pow_sub_one,decide_eq_true helt]⟩
    rw [if_pos hs1,n2,Option.bind_some]
    dsimp only
    cases hmt:m.testBit e with
    | true =>
     have hs2:stepB w h m c.f0 c.f1 (dD j) = true:=stepB_iff.2 ⟨e,hed,hmt⟩
     rw [if_pos hs2,if_pos rfl]
     rfl
    | false =>
     have hs2:¬ stepB w h m c.f0 c.f1 (dD j) = true:=fun q => by
      obtain ⟨e',h6,h7⟩:=stepB_iff.1 q
      rw [hed] at h6
      injection h6 with h6
      rw [h6,h7] at hmt; cases hmt
     rw [if_neg hs2,if_neg (by decide),fiMissing_f g k hk3,Option.bind_some]
     dsimp only
     rw [liEdge_f g k hk1 _ _ j4 hed,Option.bind_some]
     dsimp only
     rw [fiLess_f g k hk3,Option.bind_some]
     dsimp only
     rw [fiMissing_f g k hk3,Option.bind_some]
     dsimp only
     rw [diff_diff h4 helt,e1]
     exact ih _ _ (next_in hfour hed) (Nat.or_lt_two_pow h4 (Nat.pow_lt_pow_right (by omega) helt))
theorem liDraw_f (g:GridOK w h) (s:ByteArray) (hs:s.size ≤ 1000000) (c:S84) (hc:inC w h c.f0 c.f1) (k:Nat) (hk:6 * s.size + 3000100 < k):spec_liDraw.f k w h c.f0 c.f1 s = drawO w h (drawN w h c s.data.toList 0):=by
 have H:=ldr_l0 g s hs s.size k 0 c 0 (Nat.sub_zero _) (Nat.zero_le _) hc (Nat.two_pow_pos _) hk
 rw [(rows_zero w h).1,(rows_zero w h).2,List.drop_zero] at H
 unfold spec_liDraw.f
 rw [fiFull_f g k (by omega),Option.bind_some]
 exact H
end

end Go.Proofs.YtehjfaddhmdicaaDoor.P
namespace Go.Proofs.YtehjfaddhmdicaaDoor.P
open Go.RowKit Go.Proofs.YtehjfaddhmdicaaDoorW.PrintWords Go.Proofs.YtehjfaddhmdicaaDoorW.PrintLast Go.Proofs.YtehjfaddhmdicaaDoorW.PrintMore
attribute [local go_sem] max2_int min2_int max_two min_two max_three min_three max_four min_four   -- for this text's walks alone
set_option linter.unusedVariables false
set_option linter.unusedSimpArgs false

def rowG (q:Nat → Nat → Bool) (y:Nat):Nat → List S84
 | 0 => []
 | x + 1 => if q y x then rowG q y x ++ [⟨x,y⟩] else rowG q y x
def gridG (q:Nat → Nat → Bool) (W:Nat):Nat → List S84
 | 0 => []
 | y + 1 => gridG q W y ++ rowG q y W
theorem rowG_more (q:Nat → Nat → Bool) (y W:Nat) (h:∀ x,W ≤ x → q y x = false):∀ d,rowG q y (W + d) = rowG q y W
 | 0 => rfl
 | d + 1 => by
  show (if q y (W + d) then _ else _) = _
  rw [h (W + d) (by omega),if_neg (by simp)]; exact rowG_more q y W h d
theorem rowG_none (q:Nat → Nat → Bool) (y:Nat):∀ W,(∀ x,x < W → q y x = false) → rowG q y W = []
 | 0,_ => rfl
 | W + 1,h => by
  show (if q y W then _ else _) = _
  rw [h W (by omega),if_neg (by simp),rowG_none q y W (fun x hx => h x (by omega))]
theorem gridG_more (q:Nat → Nat → Bool) (W H:Nat) (h:∀ y x,H ≤ y → q y x = false):∀ d,gridG q W (H + d) = gridG q W H
 | 0 => rfl
 | d + 1 => by
  show gridG q W (H + d) ++ rowG q (H + d) W = _
  rw [rowG_none q (H + d) W (fun x _ => h _ _ (by omega)),List.append_nil]; exact gridG_more q W H h d
theorem gridG_wide (q:Nat → Nat → Bool) (W V:Nat) (h:∀ y x,W ≤ x → q y x = false) (hv:W ≤ V):∀ H,gridG q V H = gridG q W H
 | 0 => rfl
 | H + 1 => by
  show gridG q V H ++ rowG q H V = gridG q W H ++ rowG q H W
  rw [gridG_wide q W V h hv H,show V = W + (V - W) by omega,rowG_more q H W (h H)]
theorem rowG_mem (q:Nat → Nat → Bool) (y:Nat) (c:S84):∀ W,c ∈ rowG q y W ↔ ∃ x,x < W ∧ q y x = true ∧ c = ⟨x,y⟩
 | 0 => ⟨(fun h => by cases h),fun ⟨x,h,_⟩ => absurd h (by omega)⟩
 | W + 1 => by
  show c ∈ (if q y W then _ else _) ↔ _
  cases hq:q y W with
  | false =>
   rw [if_neg (by simp),rowG_mem q y c W]
   constructor
   ·rintro ⟨x,h1,h2,h3⟩; exact ⟨x,by omega,h2,h3⟩
   ·rintro ⟨x,h1,h2,h3⟩
    refine ⟨x,?_,h2,h3⟩
    by_cases e:x = W
    ·subst e; rw [hq] at h2; cases h2
    ·omega
  | true =>
   rw [if_pos rfl,List.mem_append,List.mem_singleton,rowG_mem q y c W]
   constructor
   ·rintro (⟨x,h1,h2,h3⟩ | h)
    ·exact ⟨x,by omega,h2,h3⟩
    ·exact ⟨W,by omega,hq,h⟩
   ·rintro ⟨x,h1,h2,h3⟩
    by_cases e:x = W
    ·subst e; exact .inr h3
    ·exact .inl ⟨x,by omega,h2,h3⟩
theorem gridG_mem (q:Nat → Nat → Bool) (W:Nat) (c:S84):∀ H,c ∈ gridG q W H ↔ ∃ x y,x < W ∧ y < H ∧ q y x = true ∧ c = ⟨x,y⟩
 | 0 => ⟨(fun h => by cases h),fun ⟨x,y,_,h,_⟩ => absurd h (by omega)⟩
 | H + 1 => by
  show c ∈ gridG q W H ++ rowG q H W ↔ _
  rw [List.mem_append,gridG_mem q W c H,rowG_mem]
  constructor
  ·rintro (⟨x,y,h1,h2,h3⟩ | ⟨x,h1,h2,h3⟩)
   ·exact ⟨x,y,h1,by omega,h3⟩
   ·exact ⟨x,H,h1,by omega,h2,h3⟩
  ·rintro ⟨x,y,h1,h2,h3,h4⟩
   by_cases e:y = H
   ·subst e; exact .inr ⟨x,h1,h3,h4⟩
   ·exact .inl ⟨x,y,h1,by omega,h3,h4⟩
theorem upsL_mem (cs:List S84) (lo:S84) (p:Int × Int):∀ k,p ∈ upsL cs lo k ↔ ∃ i,i < k ∧ (cs.getD (i + 1) ⟨0,0⟩).f0 = (cs.getD i ⟨0,0⟩).f0 ∧ p = ((cs.getD i ⟨0,0⟩).f0 - lo.f0,minI (cs.getD i ⟨0,0⟩).f1 (cs.getD (i + 1) ⟨0,0⟩).f1 - lo.f1)
 | 0 => ⟨(fun h => by cases h),fun ⟨i,h,_⟩ => absurd h (by omega)⟩
 | k + 1 => by
  have ih:=upsL_mem cs lo p k
  unfold upsL
  by_cases he:(cs.getD k ⟨0,0⟩).f0 = (cs.getD (k + 1) ⟨0,0⟩).f0
  ·rw [if_pos he]
   have hi:∀ (S:List (Int × Int)) (r:Int × Int),p ∈ insP S r ↔ p ∈ S ∨ p = r:=fun S r => by
    unfold insP
    split
    ·rename_i h
     constructor
     ·exact .inl
     ·rintro (h2 | rfl)
      ·exact h2
      ·exact h
    ·rw [List.mem_cons]; exact Or.comm
   rw [hi,ih]
   constructor
   ·rintro (⟨i,h1,h2,h3⟩ | h)
    ·exact ⟨i,by omega,h2,h3⟩
    ·exact ⟨k,by omega,he.symm,h⟩
   ·rintro ⟨i,h1,h2,h3⟩
    by_cases e:i = k
    ·subst e; exact .inr h3
    ·exact .inl ⟨i,by omega,h2,h3⟩
  ·rw [if_neg he,ih]
   constructor
   ·rintro ⟨i,h1,h2,h3⟩; exact ⟨i,by omega,h2,h3⟩
   ·rintro ⟨i,h1,h2,h3⟩
    refine ⟨i,?_,h2,h3⟩
    by_cases e:i = k
    ·subst e; exact (he h2.symm).elim
    ·omega
def xW (cs:List S84) (i:Nat):Int:=(cs.getD i ⟨0,0⟩).f0
def yW (cs:List S84) (i:Nat):Int:=(cs.getD i ⟨0,0⟩).f1
theorem ups_at {cs:List S84} {n:Nat} (R:Ring (xW cs) (yW cs) n) (lo:S84) (x y:Nat):((x:Int),(y:Int)) ∈ upsL cs lo n ↔ Ring.atE (xW cs) (yW cs) n (y + lo.f1) (x + lo.f0) = true:=by
 rw [upsL_mem,R.atE_iff]
 constructor
 ·rintro ⟨i,h1,h2,h3⟩
  rw [Prod.mk.injEq] at h3
  refine ⟨i,h1,?_,?_⟩
  ·unfold vE
   rw [Bool.and_eq_true,decide_eq_true_iff,decide_eq_true_iff]
   exact ⟨h2,by unfold yW; omega⟩
  ·unfold xW; omega
 ·rintro ⟨i,h1,h2,h3⟩
  unfold vE at h2
  rw [Bool.and_eq_true,decide_eq_true_iff,decide_eq_true_iff] at h2
  refine ⟨i,h1,h2.1,?_⟩
  unfold xW yW at *
  rw [Prod.mk.injEq]
  omega
def inQ (cs:List S84) (lo:S84) (n:Nat) (y x:Nat):Bool:=Ring.ins (xW cs) (yW cs) n (y + lo.f1) (x + lo.f0)
theorem scan_in {cs:List S84} {n:Nat} (R:Ring (xW cs) (yW cs) n) (lo:S84) (hlo:∀ i,i < n → lo.f0 ≤ xW cs i) (y:Nat):∀ x,(scanL (upsL cs lo n) y x).1 = Ring.ins (xW cs) (yW cs) n (y + lo.f1) (x + lo.f0 - 1) ∧ (scanL (upsL cs lo n) y x).2 = rowG (inQ cs lo n) y x
 | 0 => ⟨(Ring.ins_low (y + lo.f1) (((0:Nat):Int) + lo.f0 - 1) (fun i hi => by have:=hlo i hi; omega)).symm,rfl⟩
 | x + 1 => by
  obtain ⟨h1,h2⟩:=scan_in R lo hlo y x
  have hu:=ups_at R lo x y
  have hs:=Ring.ins_step (xW cs) (yW cs) n (y + lo.f1) (x + lo.f0 - 1)
  rw [show (x:Int) + lo.f0 - 1 + 1 = x + lo.f0 by omega,← h1] at hs
  have hb:(if ((x:Int),(y:Int)) ∈ upsL cs lo n then !(scanL (upsL cs lo n) y x).1 else (scanL (upsL cs lo n) y x).1) = inQ cs lo n y x:=by
   unfold inQ
   rw [hs]
   by_cases h:((x:Int),(y:Int)) ∈ upsL cs lo n
   ·rw [if_pos h,hu.1 h,Bool.xor_true]
   ·rw [if_neg h]
    have:Ring.atE (xW cs) (yW cs) n (y + lo.f1) (x + lo.f0) = false:=by
     cases e:Ring.atE (xW cs) (yW cs) n (y + lo.f1) (x + lo.f0) with
     | false => rfl
     | true => exact (h (hu.2 e)).elim
    rw [this,Bool.xor_false]
  rw [scanL,rowG]
  dsimp only
  rw [hb,h2]
  refine ⟨?_,rfl⟩
  unfold inQ
  rw [show ((x + 1:Nat):Int) + lo.f0 - 1 = x + lo.f0 by omega]
theorem rows_in {cs:List S84} {n:Nat} (R:Ring (xW cs) (yW cs) n) (lo:S84) (hlo:∀ i,i < n → lo.f0 ≤ xW cs i):∀ y,rowsL (upsL cs lo n) y = gridG (inQ cs lo n) 40 y
 | 0 => rfl
 | y + 1 => by rw [rowsL,gridG,rows_in R lo hlo y,(scan_in R lo hlo y 40).2]
structure BoxW (cs:List S84) (n:Nat) (lo hi:S84):Prop where
 l0:∀ i,i < n → lo.f0 ≤ xW cs i
 l1:∀ i,i < n → lo.f1 ≤ yW cs i
 h0:∀ i,i < n → xW cs i ≤ hi.f0
 h1:∀ i,i < n → yW cs i ≤ hi.f1
 a0:∃ i,i < n ∧ xW cs i = lo.f0
 a1:∃ i,i < n ∧ yW cs i = lo.f1
 b0:∃ i,i < n ∧ xW cs i = hi.f0
 b1:∃ i,i < n ∧ yW cs i = hi.f1
theorem cells_box {cs:List S84} {n:Nat} (R:Ring (xW cs) (yW cs) n) (n40:n ≤ 40) {lo hi:S84} (B:BoxW cs n lo hi):rowsL (upsL cs lo n) 40 = gridG (inQ cs lo n) (hi.f0 - lo.f0).toNat (hi.f1 - lo.f1).toNat:=by
 obtain ⟨i,hi',hx⟩:=B.a0
 obtain ⟨j,hj,hjx⟩:=B.b0
 obtain ⟨k,hk,hky⟩:=B.a1
 obtain ⟨m,hm,hmy⟩:=B.b1
 have w0:=(R.wide_le i j (by omega) (by omega)).1
 have w1:=(R.wide_le k m (by omega) (by omega)).2
 have p0:=B.h0 i hi'
 have p1:=B.h1 k hk
 rw [rows_in R lo B.l0]
 have e1:∀ y x,(hi.f0 - lo.f0).toNat ≤ x → inQ cs lo n y x = false:=fun y x h => R.ins_high _ _ (fun i hi => by have:=B.h0 i hi; omega)
 have e2:∀ y x,(hi.f1 - lo.f1).toNat ≤ y → inQ cs lo n y x = false:=fun y x h => R.ins_below _ _ (fun i hi => by have:=B.h1 i hi; omega)
 rw [gridG_wide (inQ cs lo n) (hi.f0 - lo.f0).toNat 40 e1 (by omega)]
 have:=gridG_more (inQ cs lo n) (hi.f0 - lo.f0).toNat (hi.f1 - lo.f1).toNat e2 (40 - (hi.f1 - lo.f1).toNat)
 rw [show (hi.f1 - lo.f1).toNat + (40 - (hi.f1 - lo.f1).toNat) = 40 by omega] at this
 exact this
theorem cells_wide {cs:List S84} {n:Nat} (R:Ring (xW cs) (yW cs) n) (n40:n ≤ 40) {lo hi:S84} (B:BoxW cs n lo hi):(∀ c ∈ rowsL (upsL cs lo n) 40,0 ≤ c.f0 ∧ c.f0 + 1 ≤ hi.f0 - lo.f0 ∧ 0 ≤ c.f1 ∧ c.f1 + 1 ≤ hi.f1 - lo.f1) ∧ (∃ c ∈ rowsL (upsL cs lo n) 40,c.f0 + 1 = hi.f0 - lo.f0) ∧ (∃ c ∈ rowsL (upsL cs lo n) 40,c.f1 + 1 = hi.f1 - lo.f1):=by
 rw [cells_box R n40 B]
 have out0:∀ y x,Ring.ins (xW cs) (yW cs) n y x = true → lo.f0 ≤ x ∧ x < hi.f0 ∧ y < hi.f1 ∧ lo.f1 ≤ y:=fun y x h => by
  refine ⟨?_,?_,?_,?_⟩
  ·by_cases e:lo.f0 ≤ x
   ·exact e
   ·rw [Ring.ins_low y x (fun i hi => by have:=B.l0 i hi; omega)] at h; cases h
  ·by_cases e:x < hi.f0
   ·exact e
   ·rw [R.ins_high y x (fun i hi => by have:=B.h0 i hi; omega)] at h; cases h
  ·by_cases e:y < hi.f1
   ·exact e
   ·rw [R.ins_below y x (fun i hi => by have:=B.h1 i hi; omega)] at h; cases h
  ·by_cases e:lo.f1 ≤ y
   ·exact e
   ·have hz:Ring.ins (xW cs) (yW cs) n y x = false:=parN_none n (fun i hi => by
     have h1:=B.l1 i hi
     have h2:lo.f1 ≤ yW cs (i + 1):=by
      by_cases e2:i + 1 < n
      ·exact B.l1 _ e2
      ·have:i + 1 = n:=by omega
       rw [this,R.clY]; exact B.l1 0 (by have:=R.n4; omega)
     unfold vE minI
     rw [decide_eq_false (show ¬ (if yW cs (i + 1) < yW cs i then yW cs (i + 1) else yW cs i) = y by split <;> omega),Bool.and_false]; rfl)
    rw [hz] at h; cases h
 refine ⟨fun c hc => ?_,?_,?_⟩
 ·obtain ⟨x,y,h1,h2,h3,rfl⟩:=(gridG_mem _ _ _ _).1 hc
  show (0:Int) ≤ (x:Int) ∧ (x:Int) + 1 ≤ _ ∧ (0:Int) ≤ (y:Int) ∧ (y:Int) + 1 ≤ _
  omega
 ·obtain ⟨y,hy⟩:=R.wide_cell hi.f0 B.h0 B.b0
  have:=out0 _ _ hy
  refine ⟨⟨((hi.f0 - 1 - lo.f0).toNat:Nat),((y - lo.f1).toNat:Nat)⟩,(gridG_mem _ _ _ _).2 ⟨_,_,by omega,by omega,?_,rfl⟩,?_⟩
  ·unfold inQ
   rw [show (((y - lo.f1).toNat:Nat):Int) + lo.f1 = y by omega,show (((hi.f0 - 1 - lo.f0).toNat:Nat):Int) + lo.f0 = hi.f0 - 1 by omega]
   exact hy
  ·show (((hi.f0 - 1 - lo.f0).toNat:Nat):Int) + 1 = _
   omega
 ·obtain ⟨x,hx⟩:=R.high_cell hi.f0 hi.f1 B.h0 B.b0 B.h1 B.b1
  have:=out0 _ _ hx
  refine ⟨⟨((x - lo.f0).toNat:Nat),((hi.f1 - 1 - lo.f1).toNat:Nat)⟩,(gridG_mem _ _ _ _).2 ⟨_,_,by omega,by omega,?_,rfl⟩,?_⟩
  ·unfold inQ
   rw [show (((hi.f1 - 1 - lo.f1).toNat:Nat):Int) + lo.f1 = hi.f1 - 1 by omega,show (((x - lo.f0).toNat:Nat):Int) + lo.f0 = x by omega]
   exact hx
  ·show (((hi.f1 - 1 - lo.f1).toNat:Nat):Int) + 1 = _
   omega

end Go.Proofs.YtehjfaddhmdicaaDoor.P
namespace Go.Proofs.YtehjfaddhmdicaaDoor.P
open Go.RowKit Go.Proofs.YtehjfaddhmdicaaDoorW.PrintWords Go.Proofs.YtehjfaddhmdicaaDoorW.PrintLast Go.Proofs.YtehjfaddhmdicaaDoorW.PrintMore
attribute [local go_sem] max2_int min2_int max_two min_two max_three min_three max_four min_four   -- for this text's walks alone
set_option linter.unusedVariables false
set_option linter.unusedSimpArgs false

theorem contains_l0 (l:List Int) (a:Int) (hl:l.length ≤ 1000000):∀ (d k i:Nat),l.length - i = d → i ≤ l.length → d < k → (∀ j,(h:j < l.length) → j < i → l[j] ≠ a) → ∃ r:Int,slices_Index_int_int.l0 k l a (l.length:Int) (i:Int) = some r ∧ (0 ≤ r ↔ a ∈ l):=by
 intro d
 induction d with
 | zero =>
  intro k i h1 h2 h3 h4
  obtain ⟨k,rfl⟩:∃ q,k = q + 1:=⟨k - 1,by omega⟩
  refine ⟨-1,?_,?_⟩
  ·rw [slices_Index_int_int.l0,if_neg (by omega)]
  ·constructor
   ·intro q; omega
   ·intro q
    obtain ⟨j,hj,e⟩:=List.getElem_of_mem q
    exact absurd e (h4 j hj (by omega))
 | succ d ih =>
  intro k i h1 h2 h3 h4
  obtain ⟨k,rfl⟩:∃ q,k = q + 1:=⟨k - 1,by omega⟩
  have hi:i < l.length:=by omega
  have e1:wrap64 ((i:Int) + 1) = ((i + 1:Nat):Int):=by clear h4; unfold wrap64; omega
  have hrd:rd l (i:Int) = l[i]:=by
   unfold rd
   rw [Int.toNat_natCast,List.getD_eq_getElem?_getD,List.getElem?_eq_getElem hi]
   rfl
  rw [slices_Index_int_int.l0,if_pos (Int.ofNat_lt.2 hi),if_pos (Int.natCast_nonneg _),if_pos (Int.ofNat_lt.2 hi),hrd,e1]
  by_cases ha:a = l[i]
  ·rw [if_pos ha]
   exact ⟨_,rfl,fun _ => by rw [ha]; exact List.getElem_mem hi,fun _ => Int.natCast_nonneg _⟩
  ·rw [if_neg ha]
   refine ih k (i + 1) (by omega) (by omega) (by omega) (fun j hj hji => ?_)
   by_cases e:j = i
   ·subst e; exact fun q => ha q.symm
   ·exact h4 j hj (by omega)
theorem contains_f (l:List Int) (a:Int) (hl:l.length ≤ 1000000) (k:Nat) (hk:l.length < k):slices_Contains_int_int.f k l a = some (decide (a ∈ l)):=by
 obtain ⟨r,h1,h2⟩:=contains_l0 l a hl l.length k 0 (Nat.sub_zero _) (Nat.zero_le _) hk (fun j _ h => absurd h (by omega))
 unfold slices_Contains_int_int.f slices_Index_int_int.f
 rw [show slices_Index_int_int.l0 k l a (l.length:Int) 0 = _ from h1,Option.bind_some]
 congr 1
 exact decide_eq_decide.2 h2
def sidB (w h:Int) (N:List Int) (k:Nat):Bool:=match impl_grid_beside.f w h (k:Int) with
 | some (a,b) => decide (a ∈ N) != decide (b ∈ N)
 | none => false
def bordN (w h:Int) (N:List Int):Nat → Nat
 | 0 => 0
 | k + 1 => if sidB w h N k = true then bordN w h N k ||| 2 ^ k else bordN w h N k
theorem bordN_lt (w h:Int) (N:List Int):∀ k,bordN w h N k < 2 ^ k
 | 0 => Nat.two_pow_pos _
 | k + 1 => by
  have ih:=bordN_lt w h N k
  have h2:2 ^ k < 2 ^ (k + 1):=Nat.pow_lt_pow_right (by omega) (by omega)
  unfold bordN
  split
  ·exact Nat.or_lt_two_pow (by omega) h2
  ·omega
theorem bordN_test (w h:Int) (N:List Int) (i:Nat):∀ k,(bordN w h N k).testBit i = (decide (i < k) && sidB w h N i)
 | 0 => by simp [bordN]
 | k + 1 => by
  have ih:=bordN_test w h N i k
  unfold bordN
  by_cases hs:sidB w h N k = true
  ·rw [if_pos hs,Nat.testBit_or,ih,Nat.testBit_two_pow]
   by_cases hk:k = i
   ·subst hk; rw [hs]; simp
   ·rw [decide_eq_false hk,Bool.or_false,show decide (i < k + 1) = decide (i < k) from decide_eq_decide.2 (by omega)]
  ·rw [if_neg hs,ih]
   by_cases hk:k = i
   ·subst hk
    rw [show sidB w h N k = false by simpa using hs,Bool.and_false,Bool.and_false]
   ·rw [show decide (i < k + 1) = decide (i < k) from decide_eq_decide.2 (by omega)]
theorem border_l0 {w h:Int} (g:GridOK w h) (N:List Int) (hN:N.length ≤ 1000) (M:Nat) (hM:M ≤ 40):∀ (d k i:Nat),M - i = d → i ≤ M → d + 1002 ≤ k → impl_grid_border.l0 k N ((bordN w h N i:Nat):Int) (M:Int) (i:Int) w h = some ((bordN w h N M:Nat):Int):=by
 intro d
 induction d with
 | zero =>
  intro k i h1 h2 h3
  obtain ⟨k,rfl⟩:∃ q,k = q + 1:=⟨k - 1,by omega⟩
  obtain rfl:i = M:=by omega
  rw [impl_grid_border.l0,if_neg (Int.lt_irrefl _)]
 | succ d ih =>
  intro k i h1 h2 h3
  obtain ⟨k,rfl⟩:∃ q,k = q + 1:=⟨k - 1,by omega⟩
  have hi:i < M:=by omega
  have ih:=ih k (i + 1) (by omega) (by omega) (by omega)
  have e1:wrap64 ((i:Int) + 1) = ((i + 1:Nat):Int):=by clear ih; unfold wrap64; omega
  have hb60:bordN w h N i < 2 ^ 60:=Nat.lt_of_lt_of_le (bordN_lt w h N i) (Nat.pow_le_pow_right (by omega) (by omega))
  have hp60:(2:Nat) ^ i < 2 ^ 60:=Nat.pow_lt_pow_right (by omega) (by omega)
  have hor:=or_u64 _ _ hb60 hp60
  have hsh:=shl_u64 i (show i < 60 by omega)
  have hbs:∃ a b,impl_grid_beside.f w h (i:Int) = some (a,b):=by
   unfold impl_grid_beside.f
   rw [if_pos ⟨⟨g.w1,g.w4⟩,⟨g.h1,g.h4⟩,⟨Int.natCast_nonneg _,by clear ih hor hsh hb60 hp60; omega⟩⟩]
   split
   ·exact ⟨_,_,rfl⟩
   ·exact ⟨_,_,rfl⟩
  obtain ⟨a,b,hab⟩:=hbs
  have hk2:N.length < k:=by clear ih hor hsh hb60 hp60; omega
  have hs:sidB w h N i = (decide (a ∈ N) != decide (b ∈ N)):=by unfold sidB; rw [hab]
  rw [impl_grid_border.l0,if_pos (Int.ofNat_lt.2 hi),hab,Option.bind_some]
  dsimp only
  rw [contains_f N a (by omega) k hk2,Option.bind_some,contains_f N b (by omega) k hk2,Option.bind_some,← hs,e1]
  rw [bordN] at ih
  by_cases hq:sidB w h N i = true
  ·rw [if_pos hq] at ih
   rw [if_pos hq,if_pos (Int.natCast_nonneg _),hsh,hor]
   exact ih
  ·rw [if_neg hq] at ih
   rw [if_neg hq]
   exact ih
theorem drawN_path {w h:Int} (P:Nat → S84) (L:List UInt8) (E:Nat → Nat) (hst:∀ j (hj:j < L.length),step4 L[j] = true) (hE:∀ j (hj:j < L.length),edC w h (P j) ((L[j].toNat:Nat):Int) = some (E j)) (hP:∀ j (hj:j < L.length),P (j + 1) = nxC (P j) ((L[j].toNat:Nat):Int)) (hne:∀ i j,i < j → j < L.length → E i ≠ E j) :
  ∀ (d i m:Nat),L.length - i = d → i ≤ L.length → (∀ e,m.testBit e = true ↔ ∃ j,j < i ∧ E j = e) → ∃ M,drawN w h (P i) (L.drop i) m = some M ∧ ∀ e,M.testBit e = true ↔ ∃ j,j < L.length ∧ E j = e:=by
 intro d
 induction d with
 | zero =>
  intro i m h1 h2 h3
  obtain rfl:i = L.length:=by omega
  refine ⟨m,?_,h3⟩
  rw [List.drop_of_length_le (Nat.le_refl _)]
  rfl
 | succ d ih =>
  intro i m h1 h2 h3
  have hi:i < L.length:=by omega
  rw [List.drop_eq_getElem_cons hi,drawN,if_pos (hst i hi),hE i hi]
  dsimp only
  have hm:¬ m.testBit (E i) = true:=fun q => by
   obtain ⟨j,hj,e⟩:=(h3 _).1 q
   exact hne j i hj hi e
  rw [if_neg hm,← hP i hi]
  refine ih (i + 1) _ (by omega) hi (fun e => ?_)
  rw [Nat.testBit_or,Bool.or_eq_true,h3,Nat.testBit_two_pow,decide_eq_true_eq]
  constructor
  ·rintro (⟨j,hj,q⟩ | q)
   ·exact ⟨j,by omega,q⟩
   ·exact ⟨i,by omega,q⟩
  ·rintro ⟨j,hj,q⟩
   by_cases e:j = i
   ·subst e; exact .inr q
   ·exact .inl ⟨j,by omega,q⟩
theorem ed_some {w h:Int} {c:S84} {d:Int} (hc:inC w h c.f0 c.f1) (hd:four4 d) (hn:inC w h (nxC c d).f0 (nxC c d).f1):∃ e,edC w h c d = some e:=by
 obtain ⟨⟨n1,n2⟩,n3,n4⟩:=hn
 unfold edC btwE
 rw [if_pos hc]
 rcases hd with rfl | rfl | rfl | rfl
 ·have n3:0 ≤ c.f1 - 1:=n3
  rw [if_pos rfl,if_pos (show 1 ≤ c.f1 by omega)]
  exact ⟨_,rfl⟩
 ·have n2:c.f0 + 1 ≤ w:=n2
  rw [if_neg (by decide),if_pos rfl,if_pos (show c.f0 < w by omega)]
  exact ⟨_,rfl⟩
 ·have n4:c.f1 + 1 ≤ h:=n4
  rw [if_neg (by decide),if_neg (by decide),if_pos rfl,if_pos (show c.f1 < h by omega)]
  exact ⟨_,rfl⟩
 ·have n1:0 ≤ c.f0 - 1:=n1
  rw [if_neg (by decide),if_neg (by decide),if_neg (by decide),if_pos (show 1 ≤ c.f0 by omega)]
  exact ⟨_,rfl⟩
theorem nextC_nxC (c:S84) (d:Int) (hd:four4 d) (hx:-1000 ≤ c.f0 ∧ c.f0 ≤ 1000) (hy:-1000 ≤ c.f1 ∧ c.f1 ≤ 1000):nextC c d = nxC c d:=by
 have w1:wrap64 (c.f0 + 1) = c.f0 + 1:=by unfold wrap64; omega
 have w2:wrap64 (c.f0 - 1) = c.f0 - 1:=by unfold wrap64; omega
 have w3:wrap64 (c.f1 + 1) = c.f1 + 1:=by unfold wrap64; omega
 have w4:wrap64 (c.f1 - 1) = c.f1 - 1:=by unfold wrap64; omega
 unfold nextC impl_Corner_next.f nxC
 rw [w1,w2,w3,w4]
 rcases hd with rfl | rfl | rfl | rfl <;> rfl
section
variable {cs:List S84} {n:Nat} {lo hi:S84}
theorem box_all (R:Ring (xW cs) (yW cs) n) (B:BoxW cs n lo hi) (i:Nat) (h:i ≤ n):(lo.f0 ≤ xW cs i ∧ xW cs i ≤ hi.f0) ∧ (lo.f1 ≤ yW cs i ∧ yW cs i ≤ hi.f1):=by
 have n4:=R.n4
 by_cases e:i < n
 ·exact ⟨⟨B.l0 i e,B.h0 i e⟩,B.l1 i e,B.h1 i e⟩
 ·obtain rfl:i = n:=by omega
  rw [R.clX,R.clY]
  exact ⟨⟨B.l0 0 (by omega),B.h0 0 (by omega)⟩,B.l1 0 (by omega),B.h1 0 (by omega)⟩
def pC (cs:List S84) (lo:S84) (i:Nat):S84:=⟨xW cs i - lo.f0,yW cs i - lo.f1⟩
theorem pC_in (R:Ring (xW cs) (yW cs) n) (B:BoxW cs n lo hi) (i:Nat) (h:i ≤ n):inC (hi.f0 - lo.f0) (hi.f1 - lo.f1) (pC cs lo i).f0 (pC cs lo i).f1:=by
 have:=box_all R B i h
 unfold inC pC
 simp only
 omega
theorem step_place {w h:Int} {i:Nat} {d:Int} {e:Nat} (hd:four4 d) (hn:pC cs lo (i + 1) = nxC (pC cs lo i) d) (he:edC w h (pC cs lo i) d = some e) :
  (∃ x y:Int,0 ≤ x ∧ x < w ∧ 0 ≤ y ∧ y ≤ h ∧ e = (y * w + x).toNat ∧ vE (yW cs) (xW cs) i (x + lo.f0) = true ∧ yW cs i = y + lo.f1) ∨
  (∃ x y:Int,0 ≤ x ∧ x ≤ w ∧ 0 ≤ y ∧ y < h ∧ e = (w * (h + 1)).toNat + (y * (w + 1) + x).toNat ∧ vE (xW cs) (yW cs) i (y + lo.f1) = true ∧ xW cs i = x + lo.f0):=by
 rcases ed_place hd he with ⟨x,y,a1,a2,a3,a4,a5,a6⟩ | ⟨x,y,a1,a2,a3,a4,a5,a6⟩
 ·refine .inl ⟨x,y,a1,a2,a3,a4,a5,?_⟩
  rcases a6 with ⟨h1,rfl⟩ | ⟨h1,rfl⟩
  ·rw [h1] at hn
   have k1:=congrArg S84.f0 h1
   have k2:=congrArg S84.f1 h1
   have k3:=congrArg S84.f0 hn
   have k4:=congrArg S84.f1 hn
   simp only [pC,nxC] at k1 k2 k3 k4
   simp at k3 k4
   unfold vE minI
   refine ⟨?_,by omega⟩
   rw [Bool.and_eq_true,decide_eq_true_eq,decide_eq_true_eq]
   refine ⟨by omega,?_⟩
   rw [if_neg (by omega)]; omega
  ·rw [h1] at hn
   have k1:=congrArg S84.f0 h1
   have k2:=congrArg S84.f1 h1
   have k3:=congrArg S84.f0 hn
   have k4:=congrArg S84.f1 hn
   simp only [pC,nxC] at k1 k2 k3 k4
   simp at k3 k4
   unfold vE minI
   refine ⟨?_,by omega⟩
   rw [Bool.and_eq_true,decide_eq_true_eq,decide_eq_true_eq]
   refine ⟨by omega,?_⟩
   rw [if_pos (by omega)]; omega
 ·refine .inr ⟨x,y,a1,a2,a3,a4,a5,?_⟩
  rcases a6 with ⟨h1,rfl⟩ | ⟨h1,rfl⟩
  ·rw [h1] at hn
   have k1:=congrArg S84.f0 h1
   have k2:=congrArg S84.f1 h1
   have k3:=congrArg S84.f0 hn
   have k4:=congrArg S84.f1 hn
   simp only [pC,nxC] at k1 k2 k3 k4
   simp at k3 k4
   unfold vE minI
   refine ⟨?_,by omega⟩
   rw [Bool.and_eq_true,decide_eq_true_eq,decide_eq_true_eq]
   refine ⟨by omega,?_⟩
   rw [if_neg (by omega)]; omega
  ·rw [h1] at hn
   have k1:=congrArg S84.f0 h1
   have k2:=congrArg S84.f1 h1
   have k3:=congrArg S84.f0 hn
   have k4:=congrArg S84.f1 hn
   simp only [pC,nxC] at k1 k2 k3 k4
   simp at k3 k4
   unfold vE minI
   refine ⟨?_,by omega⟩
   rw [Bool.and_eq_true,decide_eq_true_eq,decide_eq_true_eq]
   refine ⟨by omega,?_⟩
   rw [if_pos (by omega)]; omega
end

end Go.Proofs.YtehjfaddhmdicaaDoor.P
namespace Go.Proofs.YtehjfaddhmdicaaDoor.P
open Go.RowKit Go.Proofs.YtehjfaddhmdicaaDoorW.PrintWords Go.Proofs.YtehjfaddhmdicaaDoorW.PrintLast Go.Proofs.YtehjfaddhmdicaaDoorW.PrintMore
attribute [local go_sem] max2_int min2_int max_two min_two max_three min_three max_four min_four   -- for this text's walks alone
set_option linter.unusedVariables false
set_option linter.unusedSimpArgs false

namespace Ring
variable {X Y:Nat → Int} {n:Nat}
theorem swap (R:Ring X Y n):Ring Y X n where
  n4:=R.n4
  clX:=R.clY
  clY:=R.clX
  st i hi:=by
    rcases R.st i hi with ⟨a,b⟩ | ⟨a,b⟩
    · exact .inr ⟨a,b⟩
    · exact .inl ⟨a,b⟩
  inj i j h1 h2 h3 h4:=R.inj i j h1 h2 h4 h3
theorem tele (f:Nat → Bool):∀ n,parN (fun i => xor (f i) (f (i + 1))) n = xor (f 0) (f n)
  | 0 => by unfold parN; cases f 0 <;> rfl
  | n + 1 => by
    unfold parN
    rw [tele f n]
    cases f 0 <;> cases f n <;> cases f (n + 1) <;> rfl
theorem one_step (R:Ring X Y n) (y x:Int) (i:Nat) (hi:i < n) :
    xor (xor (vE X Y i (y - 1) && decide (X i ≤ x)) (vE X Y i y && decide (X i ≤ x))) (vE Y X i x && decide (Y i = y)) = xor (decide (Y i = y) && decide (X i ≤ x)) (decide (Y (i + 1) = y) && decide (X (i + 1) ≤ x)):=by
  unfold vE minI
  rcases R.st i hi with ⟨a,b | b⟩ | ⟨a,b | b⟩
  · rw [a,b,decide_eq_true (rfl:X i = X i),decide_eq_false (show ¬ Y i + 1 = Y i by omega),if_neg (show ¬ Y i + 1 < Y i by omega)]
    simp only [Bool.true_and,Bool.false_and,Bool.xor_false]
    rw [show decide (Y i = y - 1) = decide (Y i + 1 = y) from decide_eq_decide.2 (by omega)]
    cases decide (Y i + 1 = y) <;> cases decide (Y i = y) <;> cases decide (X i ≤ x) <;> rfl
  · rw [a,b,decide_eq_true (rfl:X i = X i),decide_eq_false (show ¬ Y i - 1 = Y i by omega),if_pos (show Y i - 1 < Y i by omega)]
    simp only [Bool.true_and,Bool.false_and,Bool.xor_false]
    rw [show decide (Y i - 1 = y - 1) = decide (Y i = y) from decide_eq_decide.2 (by omega)]
  · rw [a,b,decide_eq_true (rfl:Y i = Y i),decide_eq_false (show ¬ X i + 1 = X i by omega),if_neg (show ¬ X i + 1 < X i by omega)]
    simp only [Bool.true_and,Bool.false_and,Bool.false_xor]
    by_cases h:X i = x
    · rw [decide_eq_true h,decide_eq_true (show X i ≤ x by omega),decide_eq_false (show ¬ X i + 1 ≤ x by omega)]
      cases decide (Y i = y) <;> rfl
    · rw [decide_eq_false h,show decide (X i + 1 ≤ x) = decide (X i ≤ x) from decide_eq_decide.2 (by omega)]
      cases decide (Y i = y) <;> cases decide (X i ≤ x) <;> rfl
  · rw [a,b,decide_eq_true (rfl:Y i = Y i),decide_eq_false (show ¬ X i - 1 = X i by omega),if_pos (show X i - 1 < X i by omega)]
    simp only [Bool.true_and,Bool.false_and,Bool.false_xor]
    by_cases h:X i - 1 = x
    · rw [decide_eq_true h,decide_eq_false (show ¬ X i ≤ x by omega),decide_eq_true (show X i - 1 ≤ x by omega)]
      cases decide (Y i = y) <;> rfl
    · rw [decide_eq_false h,show decide (X i - 1 ≤ x) = decide (X i ≤ x) from decide_eq_decide.2 (by omega)]
      cases decide (Y i = y) <;> cases decide (X i ≤ x) <;> rfl
theorem level_step (R:Ring X Y n) (y x:Int):xor (ins X Y n (y - 1) x) (ins X Y n y x) = atE Y X n x y:=by
  have h1:xor (xor (ins X Y n (y - 1) x) (ins X Y n y x)) (atE Y X n x y) = false:=by
    unfold ins atE
    rw [← parN_xor,← parN_xor,parN_congr n (fun i hi => R.one_step y x i hi),tele (fun i => decide (Y i = y) && decide (X i ≤ x)) n]
    rw [R.clX,R.clY]
    cases (decide (Y 0 = y) && decide (X 0 ≤ x)) <;> rfl
  revert h1
  cases ins X Y n (y - 1) x <;> cases ins X Y n y x <;> cases atE Y X n x y <;> simp
theorem ins_above (R:Ring X Y n) (y x:Int) (h:∀ i,i < n → y < Y i):ins X Y n y x = false :=
  parN_none n (fun i hi => by
    have h1:=h i hi
    have h2:y < Y (i + 1):=by
      by_cases e:i + 1 < n
      · exact h _ e
      · have:i + 1 = n:=by omega
        rw [this,R.clY]
        exact h 0 (by have:=R.n4; omega)
    unfold vE minI
    rw [decide_eq_false (show ¬ (if Y (i + 1) < Y i then Y (i + 1) else Y i) = y by split <;> omega),Bool.and_false]
    rfl)
end Ring

end Go.Proofs.YtehjfaddhmdicaaDoor.P
namespace Go.Proofs.YtehjfaddhmdicaaDoor.P
open Go.RowKit Go.Proofs.YtehjfaddhmdicaaDoorW.PrintWords Go.Proofs.YtehjfaddhmdicaaDoorW.PrintLast Go.Proofs.YtehjfaddhmdicaaDoorW.PrintMore
attribute [local go_sem] max2_int min2_int max_two min_two max_three min_three max_four min_four   -- for this text's walks alone
set_option linter.unusedVariables false
set_option linter.unusedSimpArgs false

theorem besT_eq {w h:Int} (g:GridOK w h) (x y:Int) (hx:-100 ≤ x ∧ x ≤ 100) (hy:-100 ≤ y ∧ y ≤ 100):besT w h x y = if (0 ≤ x ∧ x < w) ∧ (0 ≤ y ∧ y < h) then y * w + x else -1:=by
 have w1:=g.w1
 have w4:=g.w4
 have h1:=g.h1
 have h4:=g.h4
 have e1:wrap64 (w - 1) = w - 1:=by unfold wrap64; omega
 have e2:wrap64 (h - 1) = h - 1:=by unfold wrap64; omega
 have hic:impl_grid_isCell.f w h x y = some ((decide (0 ≤ x) && decide (x ≤ w - 1)) && (decide (0 ≤ y) && decide (y ≤ h - 1))):=by
  unfold impl_grid_isCell.f
  rw [e1,e2,within_f,within_f,Option.bind_some,Option.bind_some]
  cases (decide (0 ≤ x) && decide (x ≤ w - 1))
  ·rw [if_neg (by decide)]; rfl
  ·rw [if_pos rfl]; rfl
 unfold besT
 rw [hic]
 by_cases hin:(0 ≤ x ∧ x < w) ∧ (0 ≤ y ∧ y < h)
 ·rw [if_pos hin,if_pos (by
   congr 1
   simp only [Bool.and_eq_true,decide_eq_true_eq]
   omega)]
  have p:0 ≤ y * w ∧ y * w ≤ 100 * w:=⟨Int.mul_nonneg hin.2.1 (by omega),Int.mul_le_mul_of_nonneg_right hy.2 (by omega)⟩
  have e3:wrap64 (y * w) = y * w:=by
   generalize y * w = z at p ⊢
   unfold wrap64; omega
  rw [e3]
  generalize y * w = z at p ⊢
  unfold wrap64; omega
 ·rw [if_neg hin,if_neg (by
   intro q
   injection q with q
   simp only [Bool.and_eq_true,decide_eq_true_eq] at q
   exact hin ⟨⟨q.1.1,by omega⟩,q.2.1,by omega⟩)]
section
variable {cs:List S84} {n:Nat} {lo hi:S84}
def insD (cs:List S84) (n:Nat) (lo:S84) (x y:Int):Bool:=Ring.ins (xW cs) (yW cs) n (y + lo.f1) (x + lo.f0)
theorem insD_out (R:Ring (xW cs) (yW cs) n) (B:BoxW cs n lo hi) (x y:Int) (ho:¬ ((0 ≤ x ∧ x < hi.f0 - lo.f0) ∧ (0 ≤ y ∧ y < hi.f1 - lo.f1))):insD cs n lo x y = false:=by
 unfold insD
 by_cases h1:x < 0
 ·exact Ring.ins_low _ _ (fun i hi' => by have:=B.l0 i hi'; omega)
 ·by_cases h2:hi.f0 - lo.f0 ≤ x
  ·exact R.ins_high _ _ (fun i hi' => by have:=B.h0 i hi'; omega)
  ·by_cases h3:y < 0
   ·exact R.ins_above _ _ (fun i hi' => by have:=B.l1 i hi'; omega)
   ·exact R.ins_below _ _ (fun i hi' => by have:=B.h1 i hi'; omega)
theorem cell_uniq {w x y x' y':Int} (hw:w = 1 ∨ w = 2 ∨ w = 3 ∨ w = 4) (h1:0 ≤ x) (h2:x < w) (h3:0 ≤ y) (h1':0 ≤ x') (h2':x' < w) (h3':0 ≤ y') (he:y * w + x = y' * w + x'):x = x' ∧ y = y':=by
 rcases hw with rfl | rfl | rfl | rfl <;> omega
theorem mem_besT {w h:Int} (g:GridOK w h) (hw:w = hi.f0 - lo.f0) (hh:h = hi.f1 - lo.f1) (R:Ring (xW cs) (yW cs) n) (B:BoxW cs n lo hi) {N:List Int} (hN:∀ a:Int,a ∈ N ↔ ∃ x y:Int,(0 ≤ x ∧ x < w) ∧ (0 ≤ y ∧ y < h) ∧ insD cs n lo x y = true ∧ a = y * w + x) (x y:Int) (hx:-100 ≤ x ∧ x ≤ 100) (hy:-100 ≤ y ∧ y ≤ 100) :
  decide (besT w h x y ∈ N) = insD cs n lo x y:=by
 have cw:=(grid_cases g).1
 rw [besT_eq g x y hx hy]
 by_cases hin:(0 ≤ x ∧ x < w) ∧ (0 ≤ y ∧ y < h)
 ·rw [if_pos hin]
  rw [Bool.eq_iff_iff,decide_eq_true_eq,hN]
  constructor
  ·rintro ⟨x',y',q1,q2,q3,q4⟩
   obtain ⟨rfl,rfl⟩:=cell_uniq cw hin.1.1 hin.1.2 hin.2.1 q1.1 q1.2 q2.1 q4
   exact q3
  ·intro q
   exact ⟨x,y,hin.1,hin.2,q,rfl⟩
 ·rw [if_neg hin,insD_out R B x y (by rw [← hw,← hh]; exact hin),decide_eq_false]
  rw [hN]
  rintro ⟨x',y',q1,q2,-,q4⟩
  have:=Int.mul_nonneg q2.1 (show 0 ≤ w by omega)
  omega
theorem vE_row {X Y:Nat → Int} {i:Nat} {y:Int} (h:vE X Y i y = true):X (i + 1) = X i ∧ minI (Y i) (Y (i + 1)) = y:=by
 unfold vE at h
 rw [Bool.and_eq_true,decide_eq_true_eq,decide_eq_true_eq] at h
 exact h
theorem vE_not {X Y:Nat → Int} (R:Ring X Y n) {i:Nat} (hi:i < n) {y x:Int} (h1:vE X Y i y = true) (h2:vE Y X i x = true):False:=by
 have a:=(vE_row h1).1
 have b:=(vE_row h2).1
 rcases R.st i hi with ⟨_,q | q⟩ | ⟨_,q | q⟩ <;> omega
theorem divmod_int {w:Int} (hw:w = 1 ∨ w = 2 ∨ w = 3 ∨ w = 4 ∨ w = 5) (k:Int) (hk:0 ≤ k):0 ≤ k % w ∧ k % w < w ∧ 0 ≤ k / w ∧ k / w * w + k % w = k:=by
 rcases hw with rfl | rfl | rfl | rfl | rfl <;> omega
def PlaceI (cs:List S84) (lo:S84) (w h:Int) (i e:Nat):Prop :=
  (∃ x y:Int,0 ≤ x ∧ x < w ∧ 0 ≤ y ∧ y ≤ h ∧ e = (y * w + x).toNat ∧ vE (yW cs) (xW cs) i (x + lo.f0) = true ∧ yW cs i = y + lo.f1) ∨
  (∃ x y:Int,0 ≤ x ∧ x ≤ w ∧ 0 ≤ y ∧ y < h ∧ e = (w * (h + 1)).toNat + (y * (w + 1) + x).toNat ∧ vE (xW cs) (yW cs) i (y + lo.f1) = true ∧ xW cs i = x + lo.f0)
theorem place_ne {w h:Int} (g:GridOK w h) (R:Ring (xW cs) (yW cs) n) {i j:Nat} (hij:i < j) (hj:j < n) {e:Nat} (h1:PlaceI cs lo w h i e) (h2:PlaceI cs lo w h j e):False:=by
 have cw:=(grid_cases g).1
 rcases h1 with ⟨x,y,a1,a2,a3,a4,a5,a6,a7⟩ | ⟨x,y,a1,a2,a3,a4,a5,a6,a7⟩ <;> rcases h2 with ⟨x',y',b1,b2,b3,b4,b5,b6,b7⟩ | ⟨x',y',b1,b2,b3,b4,b5,b6,b7⟩
 ·obtain ⟨rfl,rfl⟩:=lev_uniq (by omega) a1 a2 a3 b1 b2 b3 (a5.symm.trans b5)
  exact R.swap.once hij hj a6 b6 (by rw [a7,b7])
 ·have:=lev_lt (h:=h) (by omega) a2 a3 a4 a1
  omega
 ·have:=lev_lt (h:=h) (by omega) b2 b3 b4 b1
  omega
 ·obtain ⟨rfl,rfl⟩:=lev_uniq (w:=w + 1) (by omega) a1 (by omega) a3 b1 (by omega) b3 (by omega)
  exact R.once hij hj a6 b6 (by rw [a7,b7])
theorem sid_iff {w h:Int} (g:GridOK w h) (hw:w = hi.f0 - lo.f0) (hh:h = hi.f1 - lo.f1) (R:Ring (xW cs) (yW cs) n) (B:BoxW cs n lo hi) {N:List Int} (hN:∀ a:Int,a ∈ N ↔ ∃ x y:Int,(0 ≤ x ∧ x < w) ∧ (0 ≤ y ∧ y < h) ∧ insD cs n lo x y = true ∧ a = y * w + x)
  (E:Nat → Nat) (hE:∀ i,i < n → PlaceI cs lo w h i (E i)) (k:Nat) (hk:k < figN w h):sidB w h N k = true ↔ ∃ i,i < n ∧ E i = k:=by
 have cw:=(grid_cases g).1
 have ch:=(grid_cases g).2
 have hfl:=figN_le g
 have hf:((figN w h:Nat):Int) = w * (h + 1) + h * (w + 1):=by
  unfold figN
  have p1:0 ≤ w * (h + 1):=Int.mul_nonneg (by omega) (by omega)
  have p2:0 ≤ h * (w + 1):=Int.mul_nonneg (by omega) (by omega)
  omega
 have hk40:k ≤ 40:=by omega
 have hkI:(k:Int) < w * (h + 1) + h * (w + 1):=by omega
 have hr:(1 ≤ w ∧ w ≤ 4) ∧ (1 ≤ h ∧ h ≤ 4) ∧ (0 ≤ (k:Int) ∧ (k:Int) ≤ 60):=⟨⟨g.w1,g.w4⟩,⟨g.h1,g.h4⟩,Int.natCast_nonneg _,by omega⟩
 clear hf hfl hk
 unfold sidB impl_grid_beside.f
 rw [if_pos hr]
 clear hr
 by_cases hl:(k:Int) < w * (h + 1)
 ·rw [if_pos hl]
  dsimp only
  obtain ⟨d1,d2,d3,d4⟩:=divmod_int (w:=w) (by omega) (k:Int) (Int.natCast_nonneg _)
  have hyb:(k:Int) / w ≤ h:=by
   rcases cw with rfl | rfl | rfl | rfl <;> omega
  generalize hx:(k:Int) % w = x at *
  generalize hy:(k:Int) / w = y at *
  rw [mem_besT g hw hh R B hN x (y - 1) (by omega) (by omega),mem_besT g hw hh R B hN x y (by omega) (by omega)]
  have hb:(insD cs n lo x (y - 1) != insD cs n lo x y) = Ring.atE (yW cs) (xW cs) n (x + lo.f0) (y + lo.f1):=by
   rw [← R.level_step (y + lo.f1) (x + lo.f0)]
   unfold insD
   rw [show y - 1 + lo.f1 = y + lo.f1 - 1 by omega]
  rw [hb,R.swap.atE_iff]
  constructor
  ·rintro ⟨i,i1,i2,i3⟩
   refine ⟨i,i1,?_⟩
   rcases hE i i1 with ⟨x',y',a1,a2,a3,a4,a5,a6,a7⟩ | ⟨x',y',a1,a2,a3,a4,a5,a6,a7⟩
   ·have e1:=(vE_row i2).2
    have e2:=(vE_row a6).2
    have:x' = x:=by omega
    subst this
    have:y' = y:=by omega
    subst this
    rw [a5]; omega
   ·exact (vE_not R i1 a6 i2).elim
  ·rintro ⟨i,i1,i2⟩
   refine ⟨i,i1,?_⟩
   rcases hE i i1 with ⟨x',y',a1,a2,a3,a4,a5,a6,a7⟩ | ⟨x',y',a1,a2,a3,a4,a5,a6,a7⟩
   ·obtain ⟨rfl,rfl⟩:=lev_uniq (w:=w) (by omega) a1 a2 a3 d1 d2 d3 (by rw [← a5,i2,d4]; simp)
    exact ⟨a6,a7⟩
   ·exfalso
    have p1:0 ≤ w * (h + 1):=Int.mul_nonneg (by omega) (by omega)
    have p2:=Int.mul_nonneg a3 (show 0 ≤ w + 1 by omega)
    omega
 ·rw [if_neg hl]
  dsimp only
  obtain ⟨d1,d2,d3,d4⟩:=divmod_int (w:=w + 1) (by omega) ((k:Int) - w * (h + 1)) (by omega)
  have hyb:((k:Int) - w * (h + 1)) / (w + 1) < h:=by
   have q:(k:Int) - w * (h + 1) < h * (w + 1):=by omega
   generalize (k:Int) - w * (h + 1) = z at *
   rcases cw with rfl | rfl | rfl | rfl <;> omega
  generalize hz:(k:Int) - w * (h + 1) = z at *
  generalize hx:z % (w + 1) = x at *
  generalize hy:z / (w + 1) = y at *
  rw [mem_besT g hw hh R B hN (x - 1) y (by omega) (by omega),mem_besT g hw hh R B hN x y (by omega) (by omega)]
  have hb:(insD cs n lo (x - 1) y != insD cs n lo x y) = Ring.atE (xW cs) (yW cs) n (y + lo.f1) (x + lo.f0):=by
   have hs:=Ring.ins_step (xW cs) (yW cs) n (y + lo.f1) (x - 1 + lo.f0)
   rw [show x - 1 + lo.f0 + 1 = x + lo.f0 by omega] at hs
   unfold insD
   rw [hs]
   generalize Ring.ins (xW cs) (yW cs) n (y + lo.f1) (x - 1 + lo.f0) = A
   generalize Ring.atE (xW cs) (yW cs) n (y + lo.f1) (x + lo.f0) = C
   cases A <;> cases C <;> rfl
  rw [hb,R.atE_iff]
  have p1:0 ≤ w * (h + 1):=Int.mul_nonneg (by omega) (by omega)
  constructor
  ·rintro ⟨i,i1,i2,i3⟩
   refine ⟨i,i1,?_⟩
   rcases hE i i1 with ⟨x',y',a1,a2,a3,a4,a5,a6,a7⟩ | ⟨x',y',a1,a2,a3,a4,a5,a6,a7⟩
   ·exact (vE_not R i1 i2 a6).elim
   ·have e1:=(vE_row i2).2
    have e2:=(vE_row a6).2
    have:y' = y:=by omega
    subst this
    have:x' = x:=by omega
    subst this
    rw [a5]; omega
  ·rintro ⟨i,i1,i2⟩
   refine ⟨i,i1,?_⟩
   rcases hE i i1 with ⟨x',y',a1,a2,a3,a4,a5,a6,a7⟩ | ⟨x',y',a1,a2,a3,a4,a5,a6,a7⟩
   ·exfalso
    have:=lev_lt (h:=h) (by omega) a2 a3 a4 a1
    omega
   ·obtain ⟨rfl,rfl⟩:=lev_uniq (w:=w + 1) (by omega) a1 (by omega) a3 d1 d2 d3 (by
     rw [d4]; omega)
    exact ⟨a6,a7⟩
end

end Go.Proofs.YtehjfaddhmdicaaDoor.P
namespace Go.Proofs.YtehjfaddhmdicaaDoor.P
open Go.RowKit Go.Proofs.YtehjfaddhmdicaaDoorW.PrintWords Go.Proofs.YtehjfaddhmdicaaDoorW.PrintLast Go.Proofs.YtehjfaddhmdicaaDoorW.PrintMore
attribute [local go_sem] max2_int min2_int max_two min_two max_three min_three max_four min_four   -- for this text's walks alone
set_option linter.unusedVariables false
set_option linter.unusedSimpArgs false

theorem dropWhile_head {α:Type} {p:α → Bool}:∀ {l:List α} {a:α} {t:List α},l.dropWhile p = a :: t → p a = false
 | [],a,t,h => by simp at h
 | b :: l,a,t,h => by
  rw [List.dropWhile_cons] at h
  split at h
  ·exact dropWhile_head h
  ·rename_i hb
   injection h with h1 _
   subst h1
   simpa using hb
theorem dropWhile_nil {α:Type} {p:α → Bool}:∀ {l:List α},l.dropWhile p = [] ↔ ∀ x ∈ l,p x = true
 | [] => by simp
 | b :: l => by
  rw [List.dropWhile_cons]
  cases hb:p b with
  | true =>
   rw [if_pos rfl,dropWhile_nil]
   constructor
   ·intro h x hx
    rcases List.mem_cons.1 hx with rfl | hx
    ·exact hb
    ·exact h x hx
   ·intro h x hx
    exact h x (List.mem_cons_of_mem _ hx)
  | false =>
   rw [if_neg (by simp)]
   constructor
   ·intro h; cases h
   ·intro h
    have:=h b List.mem_cons_self
    rw [hb] at this
    cases this
theorem trim_nil (l cs:List UInt8):(Lib.trimS l cs).isEmpty = l.all fun b => cs.contains b:=by
 unfold Lib.trimS Lib.trimLeftS Lib.trimRightS
 rw [Bool.eq_iff_iff,List.isEmpty_iff,List.all_eq_true]
 constructor
 ·intro h x hx
  rw [dropWhile_nil] at h
  cases hr:l.reverse.dropWhile (cs.contains ·) with
  | nil =>
   rw [dropWhile_nil] at hr
   exact hr x (List.mem_reverse.2 hx)
  | cons a t =>
   have h1:=dropWhile_head hr
   have h2:=h a (by rw [hr]; simp)
   rw [h1] at h2
   cases h2
 ·intro h
  have hr:l.reverse.dropWhile (cs.contains ·) = []:=by
   rw [dropWhile_nil]
   intro x hx
   exact h x (List.mem_reverse.1 hx)
  rw [hr]
  rfl
theorem stepsOnly_all (s:ByteArray):stepsOnly s = s.data.toList.all stepBW:=by
 unfold stepsOnly
 rw [trim_nil]
 congr 1
 funext b
 unfold stepBW stepsB
 simp only [List.contains_cons,List.contains_nil]
 cases (b == 110) <;> cases (b == 101) <;> cases (b == 115) <;> cases (b == 119) <;> rfl
theorem seenC_mem:∀ (l:List S84) (c:Int × Int),c ∈ seenC l ↔ c ∈ l.map pairC:=by
 intro l
 have key:∀ (l:List S84) (S:List (Int × Int)) (c:Int × Int),c ∈ l.foldl (fun S c => if pairC c ∈ S then S else pairC c :: S) S ↔ c ∈ S ∨ c ∈ l.map pairC:=by
  intro l
  induction l with
  | nil => intro S c; simp
  | cons a t ih =>
   intro S c
   rw [List.foldl_cons,ih,List.map_cons,List.mem_cons]
   by_cases ha:pairC a ∈ S
   ·rw [if_pos ha]
    constructor
    ·rintro (h | h)
     ·exact .inl h
     ·exact .inr (.inr h)
    ·rintro (h | rfl | h)
     ·exact .inl h
     ·exact .inl ha
     ·exact .inr h
   ·rw [if_neg ha,List.mem_cons]
    constructor
    ·rintro ((h | h) | h)
     ·exact .inr (.inl h)
     ·exact .inl h
     ·exact .inr (.inr h)
    ·rintro (h | h | h)
     ·exact .inl (.inr h)
     ·exact .inl (.inl h)
     ·exact .inr h
 intro c
 have:=key l [] c
 simpa [seenC] using this
theorem seenC_app (l m:List S84):(seenC (l ++ m)).length ≤ (seenC l).length + m.length:=by
 have key:∀ (m:List S84) (S:List (Int × Int)),(m.foldl (fun S c => if pairC c ∈ S then S else pairC c :: S) S).length ≤ S.length + m.length:=by
  intro m
  induction m with
  | nil => intro S; exact Nat.le_refl _
  | cons a t ih =>
   intro S
   rw [List.foldl_cons]
   have h1:=ih (if pairC a ∈ S then S else pairC a :: S)
   have h2:(if pairC a ∈ S then S else pairC a :: S).length ≤ S.length + 1:=by split <;> simp
   rw [List.length_cons]
   omega
 unfold seenC
 rw [List.foldl_append]
 exact key m _
theorem loCorners_l0 (s:ByteArray) (l:List UInt8) (hl:l = s.data.toList) (hn:l.length ≤ 40):∀ (d k i:Nat),l.length - i = d → i ≤ l.length → d + 100 < k → (∀ b ∈ l.take i,stepBW b = true) → (seenC ((cornersL l).take i)).length = i →
  ∃ L,spec_loCorners.l0 k s ((cornersL l).take i) (i:Int) ((cornersL l).getD i ⟨0,0⟩).f0 ((cornersL l).getD i ⟨0,0⟩).f1 = some (L,l.all stepBW && closedW l):=by
 have hsz:s.size = l.length:=by rw [hl]; simp
 have hcl:=cornersL_len l
 intro d
 induction d with
 | zero =>
  intro k i h1 h2 h3 h4 h5
  obtain ⟨k,rfl⟩:∃ q,k = q + 1:=⟨k - 1,by omega⟩
  obtain rfl:i = l.length:=by omega
  refine ⟨(cornersL l).take l.length,?_⟩
  simp only [spec_loCorners.l0]
  rw [if_neg (by omega)]
  have ha:l.all stepBW = true:=by
   rw [List.all_eq_true]
   intro b hb
   exact h4 b (by rw [List.take_length]; exact hb)
  unfold closedW
  rw [ha,h5,Bool.true_and,decide_eq_true rfl,Bool.and_true]
 | succ d ih =>
  intro k i h1 h2 h3 h4 h5
  obtain ⟨k,rfl⟩:∃ q,k = q + 1:=⟨k - 1,by omega⟩
  have hi:i < l.length:=by omega
  have e1:wrap64 ((i:Int) + 1) = ((i + 1:Nat):Int):=by unfold wrap64; omega
  have hbt:bt s (i:Int) = ((l[i].toNat:Nat):Int):=by
   subst hl
   unfold bt
   rw [Int.toNat_natCast,dif_pos (by omega)]
   rfl
  have htl:((cornersL l).take i).length = i:=by rw [List.length_take,hcl]; omega
  have hci:i < (cornersL l).length:=by omega
  have hgd:(cornersL l).getD i ⟨0,0⟩ = (cornersL l)[i]:=by rw [List.getD_eq_getElem?_getD,List.getElem?_eq_getElem hci]; rfl
  have hbd:=cornersL_bound l (by omega) (cornersL l)[i] (List.getElem_mem hci)
  have htk:(cornersL l).take (i + 1) = (cornersL l).take i ++ [(cornersL l)[i]]:=List.take_succ_eq_append_getElem hci
  have hsn:=seenC_snoc ((cornersL l).take i) (cornersL l)[i]
  rw [← htk] at hsn
  simp only [spec_loCorners.l0]
  rw [if_pos (by omega),if_pos (by omega),hbt,loDir_f _ k (by omega),Option.bind_some]
  cases hst:stepBW l[i] with
  | false =>
   have hd:dirN ((l[i].toNat:Nat):Int) < 0:=by
    by_cases h:dirN ((l[i].toNat:Nat):Int) < 0
    ·exact h
    ·have:=(dir_step l[i]).2 (by omega)
     rw [hst] at this; cases this
   have ha:l.all stepBW = false:=by
    rw [List.all_eq_false]
    exact ⟨l[i],List.getElem_mem hi,by rw [hst]; simp⟩
   rw [if_pos hd,ha]
   exact ⟨_,rfl⟩
  | true =>
   rw [if_neg ((dir_step l[i]).1 hst),liHas_f _ _ _ (by omega) k (by omega),Option.bind_some,hgd]
   by_cases hin:((cornersL l)[i].f0,(cornersL l)[i].f1) ∈ ((cornersL l).take i).map pairC
   ·rw [decide_eq_true hin,if_pos rfl]
    have hin2:pairC (cornersL l)[i] ∈ seenC ((cornersL l).take i):=(seenC_mem _ _).2 hin
    rw [if_pos hin2] at hsn
    have happ:=seenC_app ((cornersL l).take (i + 1)) (((cornersL l).take l.length).drop (i + 1))
    have hcat:(cornersL l).take (i + 1) ++ ((cornersL l).take l.length).drop (i + 1) = (cornersL l).take l.length:=by
     have:=List.take_append_drop (i + 1) ((cornersL l).take l.length)
     rw [List.take_take,Nat.min_eq_left (by omega)] at this
     exact this
    rw [hcat,hsn,h5,List.length_drop,List.length_take,hcl,Nat.min_eq_left (by omega)] at happ
    have hc:closedW l = false:=by
     unfold closedW
     rw [decide_eq_false (by omega),Bool.and_false]
    rw [hc,Bool.and_false]
    exact ⟨_,rfl⟩
   ·rw [decide_eq_false hin,if_neg (by simp),if_pos (by rw [htl]; omega),loStepW_f _ _ l[i] hst hbd.1 hbd.2,Option.bind_some,e1]
    have hin2:¬ pairC (cornersL l)[i] ∈ seenC ((cornersL l).take i):=fun h => hin ((seenC_mem _ _).1 h)
    rw [if_neg hin2] at hsn
    have hnx:(cornersL l).getD (i + 1) ⟨0,0⟩ = nextC (cornersL l)[i] ((l[i].toNat:Nat):Int):=by
     have h9:=walk_at l ⟨0,0⟩ i hi
     rw [← hgd]
     exact h9
    have:=ih k (i + 1) (by omega) (by omega) (by omega) (fun b hb => by
     rw [List.take_succ_eq_append_getElem hi,List.mem_append,List.mem_singleton] at hb
     rcases hb with hb | rfl
     ·exact h4 b hb
     ·exact hst) (by rw [hsn,List.length_cons,h5])
    rw [hnx,htk] at this
    exact this
theorem seen_full (l:List S84) (h:(seenC l).length = l.length) (i j:Nat) (hij:i < j) (hj:j < l.length):pairC (l.getD i ⟨0,0⟩) ≠ pairC (l.getD j ⟨0,0⟩):=by
 intro he
 have htk:l.take (j + 1) = l.take j ++ [l[j]]:=List.take_succ_eq_append_getElem hj
 have hsn:=seenC_snoc (l.take j) l[j]
 have hgi:l.getD i ⟨0,0⟩ = l[i]'(by omega):=by rw [List.getD_eq_getElem?_getD,List.getElem?_eq_getElem (by omega)]; rfl
 have hgj:l.getD j ⟨0,0⟩ = l[j]:=by rw [List.getD_eq_getElem?_getD,List.getElem?_eq_getElem hj]; rfl
 rw [hgi,hgj] at he
 have hin:pairC l[j] ∈ seenC (l.take j):=by
  rw [seenC_mem,← he]
  refine List.mem_map_of_mem (f:=pairC) ?_
  rw [List.mem_take_iff_getElem]
  exact ⟨i,by omega,rfl⟩
 rw [if_pos hin,← htk] at hsn
 have h1:=seenC_len (l.take j)
 have happ:=seenC_app (l.take (j + 1)) (l.drop (j + 1))
 rw [List.take_append_drop,h,hsn,List.length_drop] at happ
 rw [List.length_take] at h1
 omega
theorem loop_parts (s:ByteArray) (h:isLoopB s = true):4 ≤ s.size ∧ s.size ≤ 40 ∧ (∀ b ∈ s.data.toList,stepBW b = true) ∧ ((cornersL s.data.toList).getD s.size ⟨0,0⟩ = ⟨0,0⟩) ∧ (seenC ((cornersL s.data.toList).take s.size)).length = s.size:=by
 unfold isLoopB at h
 rw [Bool.and_eq_true,Bool.and_eq_true,Bool.and_eq_true,decide_eq_true_iff,decide_eq_true_iff,stepsOnly_all,List.all_eq_true] at h
 obtain ⟨⟨h4,h40⟩,hst,hcl⟩:=h
 unfold closedW at hcl
 have hl:s.data.toList.length = s.size:=by simp
 rw [hl,Bool.and_eq_true,Bool.and_eq_true,beq_iff_eq,beq_iff_eq,decide_eq_true_iff] at hcl
 obtain ⟨⟨c0,c1⟩,hsn⟩:=hcl
 refine ⟨h4,h40,hst,?_,hsn⟩
 generalize (cornersL s.data.toList).getD s.size ⟨0,0⟩ = c at c0 c1
 cases c
 simp only at c0 c1
 rw [c0,c1]
theorem LoopW_of (s:ByteArray) (h:isLoopB s = true):LoopW s:=by
 obtain ⟨h4,h40,hst,hend,hsn⟩:=loop_parts s h
 have hcl:=cornersL_len s.data.toList
 have hl:s.data.toList.length = s.size:=by simp
 refine ⟨h4,h40,hst,hend,fun i j hij hj => ?_⟩
 have htl:((cornersL s.data.toList).take s.size).length = s.size:=by rw [List.length_take]; omega
 have:=seen_full ((cornersL s.data.toList).take s.size) (by rw [hsn,htl]) i j hij (by omega)
 rw [take_getD _ _ _ (by omega),take_getD _ _ _ hj] at this
 exact this
theorem loCorners_no (s:ByteArray) (h:isLoopB s = false) (k:Nat) (hk:1000 < k):∃ L,spec_loCorners.f k s = some (L,false):=by
 unfold spec_loCorners.f spec_l1In.f
 by_cases h1:4 ≤ s.size ∧ s.size ≤ 40
 ·have hl:s.data.toList.length = s.size:=by simp
  obtain ⟨L,hL⟩:=loCorners_l0 s s.data.toList rfl (by omega) s.size k 0 (by omega) (by omega) (by omega) (fun b hb => by rw [List.take_zero] at hb; cases hb) (by rw [List.take_zero]; rfl)
  rw [List.take_zero] at hL
  rw [if_pos (by omega),decide_eq_true (show (s.size:Int) ≤ 40 by omega),Option.bind_some,if_pos rfl]
  refine ⟨L,?_⟩
  have hL2:spec_loCorners.l0 k s [] 0 0 0 = some (L,s.data.toList.all stepBW && closedW s.data.toList):=hL
  rw [hL2]
  unfold isLoopB at h
  rw [decide_eq_true h1.1,decide_eq_true h1.2,stepsOnly_all] at h
  simp only [Bool.true_and] at h
  rw [h]
 ·refine ⟨[],?_⟩
  by_cases h2:(s.size:Int) ≥ 4
  ·rw [if_pos h2,decide_eq_false (by omega),Option.bind_some,if_neg (by simp)]
  ·rw [if_neg h2,Option.bind_some,if_neg (by simp)]


theorem loCornersL_l0 (s:ByteArray) (h:LoopW s):∀ (d k i:Nat),s.size - i = d → i ≤ s.size → d + 100 < k →
    spec_loCorners.l0 k s ((cornersL s.data.toList).take i) (i:Int) ((cornersL s.data.toList).getD i ⟨0,0⟩).f0 ((cornersL s.data.toList).getD i ⟨0,0⟩).f1 = some ((cornersL s.data.toList).take s.size,true):=by
  obtain ⟨h4,h40,hst,hend,hinj⟩:=h
  have hl:s.data.toList.length = s.size:=by simp
  have hcl:=cornersL_len s.data.toList
  have hbds:=cornersL_bound s.data.toList (by omega)
  have hwk:∀ i (hi:i < s.data.toList.length),(cornersL s.data.toList).getD (i + 1) ⟨0,0⟩ = nextC ((cornersL s.data.toList).getD i ⟨0,0⟩) ((s.data.toList[i].toNat:Nat):Int):=fun i hi => walk_at s.data.toList ⟨0,0⟩ i hi
  generalize cornersL s.data.toList = cs at *
  intro d
  induction d with
  | zero =>
    intro k i h1 h2 h3
    obtain ⟨k,rfl⟩:∃ q,k = q + 1:=⟨k - 1,by omega⟩
    obtain rfl:i = s.size:=by omega
    simp only [spec_loCorners.l0]
    rw [if_neg (by omega),hend]
    rfl
  | succ d ih =>
    intro k i h1 h2 h3
    obtain ⟨k,rfl⟩:∃ q,k = q + 1:=⟨k - 1,by omega⟩
    have hi:i < s.size:=by omega
    have hil:i < s.data.toList.length:=by omega
    have e1:wrap64 ((i:Int) + 1) = ((i + 1:Nat):Int):=by unfold wrap64; omega
    have hbt:bt s (i:Int) = ((s.data.toList[i].toNat:Nat):Int):=by
      unfold bt
      rw [Int.toNat_natCast,dif_pos (by omega)]
      rfl
    have hsb:=hst _ (List.getElem_mem hil)
    have htl:(cs.take i).length = i:=by rw [List.length_take]; omega
    have hci:i < cs.length:=by omega
    have hgd:cs.getD i ⟨0,0⟩ = cs[i]:=by rw [List.getD_eq_getElem?_getD,List.getElem?_eq_getElem hci]; rfl
    have hbd:=hbds cs[i] (List.getElem_mem hci)
    have htk:cs.take (i + 1) = cs.take i ++ [cs[i]]:=List.take_succ_eq_append_getElem hci
    have hnot:¬ (cs[i].f0,cs[i].f1) ∈ (cs.take i).map pairC:=by
      intro hm
      obtain ⟨c,hc,he⟩:=List.mem_map.1 hm
      obtain ⟨j,hj,hjc⟩:=List.mem_iff_getElem.1 hc
      rw [List.length_take] at hj
      have hne:=hinj j i (by omega) hi
      apply hne
      have e2:cs.getD j ⟨0,0⟩ = c:=by
        rw [← hjc,List.getElem_take,List.getD_eq_getElem?_getD,List.getElem?_eq_getElem (by omega)]; rfl
      rw [e2,hgd,he]
      rfl
    have hnx:=hwk i hil
    have ih2:=ih k (i + 1) (by omega) (by omega) (by omega)
    simp only [spec_loCorners.l0]
    rw [if_pos (by omega),if_pos (by omega),hbt,loDir_f _ k (by omega),Option.bind_some,if_neg ((dir_step _).1 hsb),liHas_f _ _ _ (by omega) k (by omega),Option.bind_some,hgd,decide_eq_false hnot,if_neg (by simp),if_pos (by rw [htl]; omega),loStepW_f _ _ _ hsb hbd.1 hbd.2,Option.bind_some,e1]
    rw [hnx,htk,hgd] at ih2
    exact ih2
theorem loCorners_yes (s:ByteArray) (h:LoopW s) (k:Nat) (hk:1000 < k):spec_loCorners.f k s = some ((cornersL s.data.toList).take s.size,true):=by
  have h4:=h.n4
  have h40:=h.n40
  unfold spec_loCorners.f spec_l1In.f
  rw [if_pos (by omega),decide_eq_true (show (s.size:Int) ≤ 40 by omega),Option.bind_some,if_pos rfl]
  exact loCornersL_l0 s h s.size k 0 (by omega) (by omega) (by omega)


theorem nextC_unit (c:S84) (b:UInt8) (hb:stepBW b = true) (hx:-1000 ≤ c.f0 ∧ c.f0 ≤ 1000) (hy:-1000 ≤ c.f1 ∧ c.f1 ≤ 1000):((nextC c (b.toNat:Int)).f0 = c.f0 ∧ ((nextC c (b.toNat:Int)).f1 = c.f1 + 1 ∨ (nextC c (b.toNat:Int)).f1 = c.f1 - 1)) ∨ ((nextC c (b.toNat:Int)).f1 = c.f1 ∧ ((nextC c (b.toNat:Int)).f0 = c.f0 + 1 ∨ (nextC c (b.toNat:Int)).f0 = c.f0 - 1)):=by
  have h:=next_some c (b.toNat:Int)
  generalize nextC c (b.toNat:Int) = d at h ⊢
  unfold impl_Corner_next.f at h
  have e1:wrap64 (c.f1 - 1) = c.f1 - 1:=by unfold wrap64; omega
  have e2:wrap64 (c.f0 + 1) = c.f0 + 1:=by unfold wrap64; omega
  have e3:wrap64 (c.f1 + 1) = c.f1 + 1:=by unfold wrap64; omega
  have e4:wrap64 (c.f0 - 1) = c.f0 - 1:=by unfold wrap64; omega
  rw [e1,e2,e3,e4] at h
  clear e1 e2 e3 e4
  repeat' split at h
  all_goals (simp only [Option.some.injEq,Prod.mk.injEq] at h; omega)
theorem ring_of (s:ByteArray) (h:LoopW s):Ring (xW (cornersL s.data.toList)) (yW (cornersL s.data.toList)) s.size:=by
  obtain ⟨h4,h40,hst,hend,hinj⟩:=h
  have hl:s.data.toList.length = s.size:=by simp
  have hcl:=cornersL_len s.data.toList
  have hbd:=cornersL_bound s.data.toList (by omega)
  have hwk:∀ i (hi:i < s.data.toList.length),(cornersL s.data.toList).getD (i + 1) ⟨0,0⟩ = nextC ((cornersL s.data.toList).getD i ⟨0,0⟩) ((s.data.toList[i].toNat:Nat):Int):=fun i hi => walk_at s.data.toList ⟨0,0⟩ i hi
  have h00:(cornersL s.data.toList).getD 0 ⟨0,0⟩ = ⟨0,0⟩:=rfl
  generalize cornersL s.data.toList = cs at *
  refine ⟨h4,?_,?_,fun i hi => ?_,fun i j hij hj hx hy => ?_⟩
  · show (cs.getD _ _).f0 = (cs.getD _ _).f0
    rw [h00,hend]
  · show (cs.getD _ _).f1 = (cs.getD _ _).f1
    rw [h00,hend]
  · have hil:i < s.data.toList.length:=by omega
    have hci:i < cs.length:=by omega
    have hg:cs.getD i ⟨0,0⟩ = cs[i]:=by rw [List.getD_eq_getElem?_getD,List.getElem?_eq_getElem hci]; rfl
    have hb:=hbd cs[i] (List.getElem_mem hci)
    have:=nextC_unit cs[i] s.data.toList[i] (hst _ (List.getElem_mem hil)) hb.1 hb.2
    rw [← hg,← hwk i hil] at this
    exact this
  · exact hinj i j hij hj (by unfold pairC; rw [Prod.mk.injEq]; exact ⟨hx,hy⟩)
theorem lowL_le (cs:List S84):∀ k i,i < k → (lowL cs k).f0 ≤ (cs.getD i ⟨0,0⟩).f0 ∧ (lowL cs k).f1 ≤ (cs.getD i ⟨0,0⟩).f1
  | 0,i,h => absurd h (by omega)
  | k + 1,i,h => by
    show (if _ then _ else _) ≤ _ ∧ (if _ then _ else _) ≤ _
    by_cases e:i = k
    · subst e; constructor <;> split <;> omega
    · have:=lowL_le cs k i (by omega)
      constructor <;> split <;> omega
theorem lowL_at0 (cs:List S84):∀ k,∃ i,(i < k ∨ i = 0) ∧ (cs.getD i ⟨0,0⟩).f0 = (lowL cs k).f0
  | 0 => ⟨0,.inr rfl,rfl⟩
  | k + 1 => by
    obtain ⟨i,h1,h2⟩:=lowL_at0 cs k
    by_cases h:(cs.getD k ⟨0,0⟩).f0 < (lowL cs k).f0
    · exact ⟨k,.inl (by omega),by show _ = (if _ then _ else _); rw [if_pos h]⟩
    · exact ⟨i,by omega,by show _ = (if _ then _ else _); rw [if_neg h]; exact h2⟩
theorem lowL_at1 (cs:List S84):∀ k,∃ i,(i < k ∨ i = 0) ∧ (cs.getD i ⟨0,0⟩).f1 = (lowL cs k).f1
  | 0 => ⟨0,.inr rfl,rfl⟩
  | k + 1 => by
    obtain ⟨i,h1,h2⟩:=lowL_at1 cs k
    by_cases h:(cs.getD k ⟨0,0⟩).f1 < (lowL cs k).f1
    · exact ⟨k,.inl (by omega),by show _ = (if _ then _ else _); rw [if_pos h]⟩
    · exact ⟨i,by omega,by show _ = (if _ then _ else _); rw [if_neg h]; exact h2⟩
theorem mx_at (f:Nat → Int):∀ k,∃ M,(∀ i,i < k + 1 → f i ≤ M) ∧ ∃ i,i < k + 1 ∧ f i = M
  | 0 => ⟨f 0,fun i hi => by rw [show i = 0 by omega]; exact Int.le_refl _,0,by omega,rfl⟩
  | k + 1 => by
    obtain ⟨M,h1,i,h2,h3⟩:=mx_at f k
    by_cases h:f (k + 1) ≤ M
    · refine ⟨M,fun j hj => ?_,i,by omega,h3⟩
      by_cases e:j = k + 1
      · subst e; exact h
      · exact h1 j (by omega)
    · refine ⟨f (k + 1),fun j hj => ?_,k + 1,by omega,rfl⟩
      by_cases e:j = k + 1
      · subst e; exact Int.le_refl _
      · have:=h1 j (by omega); omega
theorem box_of {cs:List S84} {n:Nat} (R:Ring (xW cs) (yW cs) n):∃ hi,BoxW cs n (lowL cs (n + 1)) hi:=by
  have n4:=R.n4
  have back:∀ i,(i < n + 1 ∨ i = 0) → ∃ j,j < n ∧ xW cs j = xW cs i ∧ yW cs j = yW cs i:=fun i hi => by
    by_cases h:i < n
    · exact ⟨i,h,rfl,rfl⟩
    · have:i = n:=by omega
      subst this
      exact ⟨0,by omega,R.clX.symm,R.clY.symm⟩
  obtain ⟨M,m1,m2⟩:=mx_at (xW cs) (n - 1)
  obtain ⟨K,k1,k2⟩:=mx_at (yW cs) (n - 1)
  rw [show n - 1 + 1 = n by omega] at m1 m2 k1 k2
  refine ⟨⟨M,K⟩,fun i hi => (lowL_le cs (n + 1) i (by omega)).1,fun i hi => (lowL_le cs (n + 1) i (by omega)).2,m1,k1,?_,?_,m2,k2⟩
  · obtain ⟨i,h1,h2⟩:=lowL_at0 cs (n + 1)
    obtain ⟨j,h3,h4,_⟩:=back i h1
    exact ⟨j,h3,h4.trans h2⟩
  · obtain ⟨i,h1,h2⟩:=lowL_at1 cs (n + 1)
    obtain ⟨j,h3,_,h4⟩:=back i h1
    exact ⟨j,h3,h4.trans h2⟩
theorem BoxW.same {cs:List S84} {n:Nat} {lo hi lo' hi':S84} (B:BoxW cs n lo hi) (C:BoxW cs n lo' hi'):lo = lo' ∧ hi = hi':=by
  obtain ⟨a,ha,ha'⟩:=B.a0
  obtain ⟨b,hb,hb'⟩:=B.a1
  obtain ⟨c,hc,hc'⟩:=B.b0
  obtain ⟨d,hd,hd'⟩:=B.b1
  obtain ⟨e,he,he'⟩:=C.a0
  obtain ⟨f,hf,hf'⟩:=C.a1
  obtain ⟨g,hg,hg'⟩:=C.b0
  obtain ⟨i,hi9,hi'9⟩:=C.b1
  have q1:=B.l0 e he
  have q2:=C.l0 a ha
  have q3:=B.l1 f hf
  have q4:=C.l1 b hb
  have q5:=B.h0 g hg
  have q6:=C.h0 c hc
  have q7:=B.h1 i hi9
  have q8:=C.h1 d hd
  cases lo; cases lo'; cases hi; cases hi'
  simp only at *
  constructor <;> congr 1 <;> omega

theorem leastM_f (a b:Int):spec_l1Least.f a b = some (if a < b then a else b):=by unfold spec_l1Least.f; split <;> rfl
theorem mostM_f (a b:Int):spec_l1Most.f a b = some (if a > b then a else b):=by unfold spec_l1Most.f; split <;> rfl
theorem BoxW.step {cs:List S84} {n:Nat} {lo hi:S84} (B:BoxW cs n lo hi):BoxW cs (n + 1) ⟨if lo.f0 < xW cs n then lo.f0 else xW cs n,if lo.f1 < yW cs n then lo.f1 else yW cs n⟩ ⟨if hi.f0 > xW cs n then hi.f0 else xW cs n,if hi.f1 > yW cs n then hi.f1 else yW cs n⟩:=by
  have pick:∀ (P:Nat → Prop),(∀ i,i < n → P i) → P n → ∀ i,i < n + 1 → P i:=fun P h1 h2 i hi => by
    by_cases e:i = n
    · subst e; exact h2
    · exact h1 i (by omega)
  refine ⟨pick _ (fun i hi => ?_) ?_,pick _ (fun i hi => ?_) ?_,pick _ (fun i hi => ?_) ?_,pick _ (fun i hi => ?_) ?_,?_,?_,?_,?_⟩
  · have:=B.l0 i hi; show (if _ then _ else _) ≤ _; split <;> omega
  · show (if _ then _ else _) ≤ _; split <;> omega
  · have:=B.l1 i hi; show (if _ then _ else _) ≤ _; split <;> omega
  · show (if _ then _ else _) ≤ _; split <;> omega
  · have:=B.h0 i hi; show _ ≤ (if _ then _ else _); split <;> omega
  · show _ ≤ (if _ then _ else _); split <;> omega
  · have:=B.h1 i hi; show _ ≤ (if _ then _ else _); split <;> omega
  · show _ ≤ (if _ then _ else _); split <;> omega
  · by_cases e:lo.f0 < xW cs n
    · obtain ⟨i,h1,h2⟩:=B.a0
      exact ⟨i,by omega,by show _ = (if _ then _ else _); rw [if_pos e]; exact h2⟩
    · exact ⟨n,by omega,by show _ = (if _ then _ else _); rw [if_neg e]⟩
  · by_cases e:lo.f1 < yW cs n
    · obtain ⟨i,h1,h2⟩:=B.a1
      exact ⟨i,by omega,by show _ = (if _ then _ else _); rw [if_pos e]; exact h2⟩
    · exact ⟨n,by omega,by show _ = (if _ then _ else _); rw [if_neg e]⟩
  · by_cases e:hi.f0 > xW cs n
    · obtain ⟨i,h1,h2⟩:=B.b0
      exact ⟨i,by omega,by show _ = (if _ then _ else _); rw [if_pos e]; exact h2⟩
    · exact ⟨n,by omega,by show _ = (if _ then _ else _); rw [if_neg e]⟩
  · by_cases e:hi.f1 > yW cs n
    · obtain ⟨i,h1,h2⟩:=B.b1
      exact ⟨i,by omega,by show _ = (if _ then _ else _); rw [if_pos e]; exact h2⟩
    · exact ⟨n,by omega,by show _ = (if _ then _ else _); rw [if_neg e]⟩
theorem loBox_l0 (L:List S84) (hL:L.length ≤ 1000):∀ (d k i:Nat) (lo hi:S84),L.length - i = d → 1 ≤ i → i ≤ L.length → d < k → BoxW L i lo hi →
    ∃ lo' hi',spec_loBox.l0 k L (L.length:Int) (i:Int) lo.f0 lo.f1 hi.f0 hi.f1 = some (lo'.f0,lo'.f1,hi'.f0,hi'.f1) ∧ BoxW L L.length lo' hi':=by
  intro d
  induction d with
  | zero =>
    intro k i lo hi h1 h2 h3 h4 B
    obtain ⟨k,rfl⟩:∃ q,k = q + 1:=⟨k - 1,by omega⟩
    obtain rfl:i = L.length:=by omega
    simp only [spec_loBox.l0]
    rw [if_neg (by omega)]
    exact ⟨lo,hi,rfl,B⟩
  | succ d ih =>
    intro k i lo hi h1 h2 h3 h4 B
    obtain ⟨k,rfl⟩:∃ q,k = q + 1:=⟨k - 1,by omega⟩
    have e1:wrap64 ((i:Int) + 1) = ((i + 1:Nat):Int):=by unfold wrap64; omega
    have hrd:rd_T84 L (i:Int) = L.getD i ⟨0,0⟩:=by unfold rd_T84; rw [Int.toNat_natCast]; rfl
    obtain ⟨lo',hi',h5,h6⟩:=ih k (i + 1) _ _ (by omega) (by omega) (by omega) (by omega) B.step
    refine ⟨lo',hi',?_,h6⟩
    rw [← h5]
    simp only [spec_loBox.l0]
    rw [if_pos (by omega),if_pos (by omega),if_pos (by omega),hrd,e1,leastM_f,leastM_f,mostM_f,mostM_f]
    simp only [Option.bind_some]
    rfl
theorem loBox_f (L:List S84) (hL:L.length ≤ 1000) (h0:0 < L.length) (k:Nat) (hk:1001 < k):∃ lo hi,spec_loBox.f k L = some (lo.f0,lo.f1,hi.f0,hi.f1) ∧ BoxW L L.length lo hi:=by
  obtain ⟨k,rfl⟩:∃ q,k = q + 1:=⟨k - 1,by omega⟩
  have hrd:rd_T84 L 0 = L.getD 0 ⟨0,0⟩:=rfl
  have B1:BoxW L 1 (L.getD 0 ⟨0,0⟩) (L.getD 0 ⟨0,0⟩):=by
    have z:∀ i,i < 1 → i = 0:=fun i h => by omega
    exact ⟨fun i h => by rw [z i h]; exact Int.le_refl _,fun i h => by rw [z i h]; exact Int.le_refl _,fun i h => by rw [z i h]; exact Int.le_refl _,fun i h => by rw [z i h]; exact Int.le_refl _,⟨0,by omega,rfl⟩,⟨0,by omega,rfl⟩,⟨0,by omega,rfl⟩,⟨0,by omega,rfl⟩⟩
  obtain ⟨lo,hi,h1,h2⟩:=loBox_l0 L hL (L.length - 1) k 1 _ _ rfl (by omega) (by omega) (by omega) B1
  refine ⟨lo,hi,?_,h2⟩
  unfold spec_loBox.f
  rw [if_pos (by omega),hrd,← h1]
  simp only [spec_loBox.l0]
  have e1:wrap64 (0 + 1) = ((1:Nat):Int):=by unfold wrap64; omega
  rw [if_pos (by omega),if_pos (by omega),if_pos (by omega),hrd,e1,leastM_f,leastM_f,mostM_f,mostM_f]
  simp only [Option.bind_some,Int.lt_irrefl,gt_iff_lt,if_false]
theorem BoxW.congr {cs L:List S84} {n:Nat} {lo hi:S84} (B:BoxW L n lo hi) (h:∀ i,i < n → L.getD i ⟨0,0⟩ = cs.getD i ⟨0,0⟩):BoxW cs n lo hi:=by
  have hx:∀ i,i < n → xW L i = xW cs i:=fun i hi => by unfold xW; rw [h i hi]
  have hy:∀ i,i < n → yW L i = yW cs i:=fun i hi => by unfold yW; rw [h i hi]
  obtain ⟨a,ha,ha'⟩:=B.a0
  obtain ⟨b,hb,hb'⟩:=B.a1
  obtain ⟨c,hc,hc'⟩:=B.b0
  obtain ⟨d,hd,hd'⟩:=B.b1
  exact ⟨fun i hi => by rw [← hx i hi]; exact B.l0 i hi,fun i hi => by rw [← hy i hi]; exact B.l1 i hi,fun i hi => by rw [← hx i hi]; exact B.h0 i hi,fun i hi => by rw [← hy i hi]; exact B.h1 i hi,⟨a,ha,by rw [← hx a ha]; exact ha'⟩,⟨b,hb,by rw [← hy b hb]; exact hb'⟩,⟨c,hc,by rw [← hx c hc]; exact hc'⟩,⟨d,hd,by rw [← hy d hd]; exact hd'⟩⟩
theorem loBox_loop (s:ByteArray) (h:LoopW s) (k:Nat) (hk:1001 < k):∃ hi,spec_loBox.f k ((cornersL s.data.toList).take s.size) = some ((lowL (cornersL s.data.toList) (s.size + 1)).f0,(lowL (cornersL s.data.toList) (s.size + 1)).f1,hi.f0,hi.f1) ∧ BoxW (cornersL s.data.toList) s.size (lowL (cornersL s.data.toList) (s.size + 1)) hi:=by
  have h4:=h.n4
  have h40:=h.n40
  have hl:s.data.toList.length = s.size:=by simp
  have hcl:=cornersL_len s.data.toList
  have R:=ring_of s h
  generalize cornersL s.data.toList = cs at *
  have htl:(cs.take s.size).length = s.size:=by rw [List.length_take]; omega
  obtain ⟨lo,hi,h1,h2⟩:=loBox_f (cs.take s.size) (by omega) (by omega) k hk
  rw [htl] at h2
  have h3:=h2.congr (cs:=cs) (fun i hi => take_getD _ _ _ hi)
  obtain ⟨hi',B⟩:=box_of R
  obtain ⟨rfl,rfl⟩:=B.same h3
  exact ⟨_,h1,B⟩


theorem sizeOf_l0 (L:List S84) (A B:Int) (hA:0 ≤ A ∧ A ≤ 1000) (hB:0 ≤ B ∧ B ≤ 1000) (hL:L.length ≤ 1000000) (hall:∀ c ∈ L,0 ≤ c.f0 ∧ c.f0 + 1 ≤ A ∧ 0 ≤ c.f1 ∧ c.f1 + 1 ≤ B) :
  ∀ (d k i:Nat) (u v:Int),L.length - i = d → i ≤ L.length → d < k → u ≤ A → v ≤ B → (∃ c ∈ L,c.f0 + 1 = A ∧ (c ∈ L.take i → A ≤ u)) → (∃ c ∈ L,c.f1 + 1 = B ∧ (c ∈ L.take i → B ≤ v)) →
  impl_sizeOf.l0 k u v L (L.length:Int) (i:Int) = some (A,B):=by
 intro d
 induction d with
 | zero =>
  intro k i u v h1 h2 h3 hu hv ⟨c,hc,_,e1⟩ ⟨c',hc',_,e2⟩
  obtain ⟨k,rfl⟩:∃ q,k = q + 1:=⟨k - 1,by omega⟩
  obtain rfl:i = L.length:=by omega
  simp only [impl_sizeOf.l0]
  rw [List.take_length] at e1 e2
  have q1:=e1 hc
  have q2:=e2 hc'
  rw [if_neg (by omega),show u = A by omega,show v = B by omega]
 | succ d ih =>
  intro k i u v h1 h2 h3 hu hv ⟨c,hc,c1,e1⟩ ⟨c',hc',c2,e2⟩
  obtain ⟨k,rfl⟩:∃ q,k = q + 1:=⟨k - 1,by omega⟩
  have hi:i < L.length:=by omega
  have ci:(i:Int) < (L.length:Int):=by omega
  have c0:(0:Int) ≤ (i:Int):=by omega
  have hrd:rd_T84 L (i:Int) = L[i]:=by unfold rd_T84; rw [Int.toNat_natCast,List.getD_eq_getElem?_getD,List.getElem?_eq_getElem hi]; rfl
  have hb:=hall L[i] (List.getElem_mem hi)
  have w0:wrap64 ((i:Int) + 1) = ((i + 1:Nat):Int):=by unfold wrap64; omega
  have w1:wrap64 (L[i].f0 + 1) = L[i].f0 + 1:=by unfold wrap64; omega
  have w2:wrap64 (L[i].f1 + 1) = L[i].f1 + 1:=by unfold wrap64; omega
  have htk:L.take (i + 1) = L.take i ++ [L[i]]:=List.take_succ_eq_append_getElem hi
  simp only [impl_sizeOf.l0]
  rw [if_pos ci,if_pos c0,if_pos ci,hrd,w0,w1,w2]
  clear w0 w1 w2 hrd
  refine ih k (i + 1) _ _ (by omega) (by omega) (by omega) (by unfold mx; split <;> omega) (by unfold mx; split <;> omega) ⟨c,hc,c1,fun hm => ?_⟩ ⟨c',hc',c2,fun hm => ?_⟩
  ·rw [htk,List.mem_append,List.mem_singleton] at hm
   rcases hm with hm | rfl
   ·have:=e1 hm
    unfold mx; split <;> omega
   ·unfold mx; split <;> omega
  ·rw [htk,List.mem_append,List.mem_singleton] at hm
   rcases hm with hm | rfl
   ·have:=e2 hm
    unfold mx; split <;> omega
   ·unfold mx; split <;> omega
theorem rowG_len0 (q:Nat → Nat → Bool) (y:Nat):∀ x,(rowG q y x).length ≤ x
 | 0 => Nat.le_refl _
 | x + 1 => by
  have:=rowG_len0 q y x
  show (if q y x then _ else _:List _).length ≤ _
  split
  ·rw [List.length_append,List.length_singleton]; omega
  ·omega
theorem gridG_len0 (q:Nat → Nat → Bool) (W:Nat):∀ y,(gridG q W y).length ≤ y * W
 | 0 => by simp [gridG]
 | y + 1 => by
  have:=gridG_len0 q W y
  have h2:=rowG_len0 q y W
  show (gridG q W y ++ rowG q y W).length ≤ _
  rw [List.length_append,Nat.succ_mul]
  omega
def numW (w:Int) (c:S84):Int:=c.f1 * w + c.f0
theorem fol_l0 {w h:Int} (g:GridOK w h) (L:List S84) (hL:L.length ≤ 2000) (hb:∀ c ∈ L,(0 ≤ c.f0 ∧ c.f0 ≤ 4) ∧ (0 ≤ c.f1 ∧ c.f1 ≤ 4)):∀ (d k i:Nat),L.length - i = d → i ≤ L.length → d < k →
  impl_FigureOfLoop.l0 k w ((L.take i).map (numW w)) L (L.length:Int) (i:Int) w h = impl_FigureOfLoop.l0 (k - d) w (L.map (numW w)) L (L.length:Int) (L.length:Int) w h:=by
 intro d
 induction d with
 | zero =>
  intro k i h1 h2 h3
  obtain rfl:i = L.length:=by omega
  rw [List.take_length]
  rfl
 | succ d ih =>
  intro k i h1 h2 h3
  obtain ⟨k,rfl⟩:∃ q,k = q + 1:=⟨k - 1,by omega⟩
  have hi:i < L.length:=by omega
  have ih:=ih k (i + 1) (by omega) (by omega) (by omega)
  rw [show k + 1 - (d + 1) = k - d by omega,← ih]
  clear ih
  have hrd:rd_T84 L (i:Int) = L[i]:=by unfold rd_T84; rw [Int.toNat_natCast,List.getD_eq_getElem?_getD,List.getElem?_eq_getElem hi]; rfl
  have hbi:=hb L[i] (List.getElem_mem hi)
  have w0:wrap64 ((i:Int) + 1) = ((i + 1:Nat):Int):=by unfold wrap64; omega
  have hlen:((L.take i).map (numW w)).length < 17592186044416:=by
   rw [List.length_map,List.length_take]; omega
  have w1:wrap64 (wrap64 (L[i].f1 * w) + L[i].f0) = numW w L[i]:=by
   unfold numW
   have g1:=g.w1
   have g4:=g.w4
   generalize L[i].f0 = a at hbi ⊢
   generalize L[i].f1 = b at hbi ⊢
   clear hlen w0 hrd
   have cw:w = 1 ∨ w = 2 ∨ w = 3 ∨ w = 4:=by omega
   unfold wrap64
   rcases cw with rfl | rfl | rfl | rfl <;> omega
  rw [impl_FigureOfLoop.l0,if_pos (Int.ofNat_lt.2 hi),if_pos (Int.natCast_nonneg _),if_pos (Int.ofNat_lt.2 hi),if_pos hlen,hrd,w0,w1,List.take_succ_eq_append_getElem hi,List.map_append]
  rfl
theorem fig_bound {x:Nat} (h:x ≤ 40):x + 1002 ≤ 1100:=by omega
theorem sub_bound {k n k2:Nat} (h:k - n = k2 + 1) (hk:3000000 ≤ k) (hn:n ≤ 2000):1100 ≤ k2:=by omega
set_option maxHeartbeats 8000000 in
theorem FigureOfLoop_pure (s:ByteArray) (hs:s.size ≤ 1000000) (K':Nat) (hK:4000000 ≤ K'):∃ o:Int × Int × List Int × List Int × Bool,spec_FigureOfLoop.f (K' + 1) s = some o ∧ (∀ k,3000000 ≤ k → impl_FigureOfLoop.f k s = some o) ∧ o.2.2.1.length ≤ 64 ∧ o.2.2.2.1.length ≤ 64:=by
 have hI:impl_IsLoop.f s = some (isLoopB s):=rfl
 cases hB:isLoopB s with
 | false =>
  obtain ⟨L,hL⟩:=loCorners_no s hB (K' + 1) (by omega)
  refine ⟨(0,0,([]:List Int),([]:List Int),false),?_,fun k hk => ?_,Nat.zero_le _,Nat.zero_le _⟩
  ·unfold spec_FigureOfLoop.f
   rw [hL,Option.bind_some]
   dsimp only
   rw [if_neg (by decide)]
  ·unfold impl_FigureOfLoop.f
   rw [hI,hB,Option.bind_some,if_neg (by decide)]
 | true =>
  have hLW:=LoopW_of s hB
  have h40:=hLW.n40
  have h4:=hLW.n4
  have hl:s.data.toList.length = s.size:=by simp
  have R:=ring_of s hLW
  have hbds:=cornersL_bound s.data.toList (by omega)
  have hcl:=cornersL_len s.data.toList
  obtain ⟨hi,hbx,B⟩:=loBox_loop s hLW (K' + 1) (by omega)
  obtain ⟨c1,c2,c3⟩:=cells_wide R h40 B
  have hcb:=cells_box R h40 B
  have hcw:cellsW s.data.toList = rowsL (upsL (cornersL s.data.toList) (lowL (cornersL s.data.toList) (s.size + 1)) s.size) 40:=by
   unfold cellsW
   rw [hl]
  have hwk:∀ i (h:i < s.data.toList.length),(cornersL s.data.toList).getD (i + 1) ⟨0,0⟩ = nextC ((cornersL s.data.toList).getD i ⟨0,0⟩) ((s.data.toList[i].toNat:Nat):Int):=fun i h => walk_at s.data.toList ⟨0,0⟩ i h
  have hc0:(cornersL s.data.toList).getD 0 ⟨0,0⟩ = ⟨0,0⟩:=rfl
  rw [← hcw] at c1 c2 c3 hcb
  have hrl:=rowsL_len (upsL (cornersL s.data.toList) (lowL (cornersL s.data.toList) (s.size + 1)) s.size) 40
  rw [← hcw] at hrl
  have hlen:(cellsW s.data.toList).length ≤ 2000:=by omega
  have hgd:=getD_bd (cornersL s.data.toList) hbds
  have hCo:=loCorners_yes s hLW (K' + 1) (by omega)
  have hcells:impl_cells.f s = some (cellsW s.data.toList):=by
   unfold impl_cells.f
   rw [if_pos h40]
  clear hcw hrl hcl
  generalize hcs:cornersL s.data.toList = cs at *
  generalize hlo:lowL cs (s.size + 1) = lo at *
  obtain ⟨a,ha,ha'⟩:=B.a0
  obtain ⟨b,hb,hb'⟩:=B.a1
  obtain ⟨c,hc,hc'⟩:=B.b0
  obtain ⟨d,hd,hd'⟩:=B.b1
  have w0:=(R.wide_le a c (by omega) (by omega)).1
  have w1:=(R.wide_le b d (by omega) (by omega)).2
  have p0:=B.h0 a ha
  have p1:=B.h1 b hb
  have lb0:-1000 ≤ lo.f0 ∧ lo.f0 ≤ 1000:=by rw [← ha']; exact (hgd a).1
  have lb1:-1000 ≤ lo.f1 ∧ lo.f1 ≤ 1000:=by rw [← hb']; exact (hgd b).2
  have hb0:-1000 ≤ hi.f0 ∧ hi.f0 ≤ 1000:=by rw [← hc']; exact (hgd c).1
  have hb1:-1000 ≤ hi.f1 ∧ hi.f1 ≤ 1000:=by rw [← hd']; exact (hgd d).2
  have e0:wrap64 (hi.f0 - lo.f0) = hi.f0 - lo.f0:=by unfold wrap64; omega
  have e1:wrap64 (hi.f1 - lo.f1) = hi.f1 - lo.f1:=by unfold wrap64; omega
  have e2:wrap64 (-lo.f0) = -lo.f0:=by unfold wrap64; omega
  have e3:wrap64 (-lo.f1) = -lo.f1:=by unfold wrap64; omega
  have hz:∀ k,3000000 ≤ k → impl_sizeOf.f k s = some (hi.f0 - lo.f0,hi.f1 - lo.f1):=fun k hk => by
   have hz:=sizeOf_l0 (cellsW s.data.toList) (hi.f0 - lo.f0) (hi.f1 - lo.f1) (by omega) (by omega) (by omega) c1 (cellsW s.data.toList).length k 0 0 0 (Nat.sub_zero _) (Nat.zero_le _) (by omega) (by omega) (by omega) (by obtain ⟨c,q1,q2⟩:=c2; exact ⟨c,q1,q2,fun z => by rw [List.take_zero] at z; cases z⟩) (by obtain ⟨c,q1,q2⟩:=c3; exact ⟨c,q1,q2,fun z => by rw [List.take_zero] at z; cases z⟩)
   unfold impl_sizeOf.f
   rw [hcells,Option.bind_some]
   exact hz
  have hS:spec_FigureOfLoop.f (K' + 1) s = (spec_fiGrid.f (hi.f0 - lo.f0) (hi.f1 - lo.f1)).bind fun t812 => (if t812 = true then ((spec_liDraw.f (K' + 1) (hi.f0 - lo.f0) (hi.f1 - lo.f1) (-lo.f0) (-lo.f1) s).bind fun bt813 => (some (bt813.1,bt813.2.1,bt813.2.2.1,bt813.2.2.2.1,bt813.2.2.2.2))) else (some (0,0,([]:List Int),([]:List Int),false))):=by
   unfold spec_FigureOfLoop.f
   rw [hCo,Option.bind_some]
   dsimp only
   rw [if_pos rfl,hbx,Option.bind_some]
   dsimp only
   rw [e0,e1,e2,e3]
  have hM:∀ k,3000000 ≤ k → impl_FigureOfLoop.f k s = (impl_isGrid.f (hi.f0 - lo.f0) (hi.f1 - lo.f1)).bind fun t847 => (if t847 = true then (impl_FigureOfLoop.l0 k (hi.f0 - lo.f0) (([]:List Int)) (cellsW s.data.toList) ((cellsW s.data.toList).length:Int) 0 (hi.f0 - lo.f0) (hi.f1 - lo.f1)) else (some (0,0,([]:List Int),([]:List Int),false))):=fun k hk => by
   unfold impl_FigureOfLoop.f
   rw [hI,hB,Option.bind_some,if_pos rfl,hz k hk,Option.bind_some]
   dsimp only
   rw [hcells]
   rfl
  have hg:=isGrid_f (hi.f0 - lo.f0) (hi.f1 - lo.f1)
  have hg2:=fiGrid_f (hi.f0 - lo.f0) (hi.f1 - lo.f1)
  by_cases hgr:(1 ≤ hi.f0 - lo.f0 ∧ hi.f0 - lo.f0 ≤ 4) ∧ (1 ≤ hi.f1 - lo.f1 ∧ hi.f1 - lo.f1 ≤ 4)
  ·have hdec:(decide (1 ≤ hi.f0 - lo.f0) && decide (hi.f0 - lo.f0 ≤ 4) && decide (1 ≤ hi.f1 - lo.f1) && decide (hi.f1 - lo.f1 ≤ 4)) = true:=by
    simp only [Bool.and_eq_true,decide_eq_true_eq]; omega
   rw [hdec] at hg hg2
   rw [hg2,Option.bind_some,if_pos rfl] at hS
   simp only [hg,Option.bind_some,if_true] at hM
   have g:GridOK (hi.f0 - lo.f0) (hi.f1 - lo.f1):=⟨hgr.1.1,hgr.1.2,hgr.2.1,hgr.2.2⟩
   have hfour:∀ j (hj:j < s.data.toList.length),four4 ((s.data.toList[j].toNat:Nat):Int):=fun j hj => step4_four _ (hLW.st _ (List.getElem_mem hj))
   have hP:∀ j (hj:j < s.data.toList.length),pC cs lo (j + 1) = nxC (pC cs lo j) ((s.data.toList[j].toNat:Nat):Int):=fun j hj => by
    have q:=hwk j hj
    rw [nextC_nxC _ _ (hfour j hj) (hgd j).1 (hgd j).2] at q
    unfold pC xW yW
    rw [q]
    unfold nxC
    rcases hfour j hj with e | e | e | e <;> rw [e] <;> simp <;> omega
   have hE0:∀ j,∃ e,∀ (hj:j < s.data.toList.length),edC (hi.f0 - lo.f0) (hi.f1 - lo.f1) (pC cs lo j) ((s.data.toList[j].toNat:Nat):Int) = some e:=fun j => by
    by_cases hj:j < s.data.toList.length
    ·obtain ⟨e,he⟩:=ed_some (pC_in R B j (by omega)) (hfour j hj) (by rw [← hP j hj]; exact pC_in R B (j + 1) (by omega))
     exact ⟨e,fun _ => he⟩
    ·exact ⟨0,fun q => absurd q hj⟩
   obtain ⟨E,hE⟩:=Classical.axiomOfChoice hE0
   have hpl:∀ i,i < s.size → PlaceI cs lo (hi.f0 - lo.f0) (hi.f1 - lo.f1) i (E i):=fun i hi' => step_place (hfour i (by omega)) (hP i (by omega)) (hE i (by omega))
   obtain ⟨M,hM1,hM2⟩:=drawN_path (pC cs lo) s.data.toList E (fun j hj => hLW.st _ (List.getElem_mem hj)) (fun j hj => hE j hj) hP (fun i j hij hj q => place_ne g R hij (by omega) (hpl i (by omega)) (by rw [q]; exact hpl j (by omega))) s.data.toList.length 0 0 (Nat.sub_zero _) (Nat.zero_le _) (fun e => by
    rw [Nat.zero_testBit]
    exact ⟨fun q => (by cases q),fun ⟨j,hj,_⟩ => absurd hj (by omega)⟩)
   rw [List.drop_zero] at hM1
   have hp0:pC cs lo 0 = ⟨-lo.f0,-lo.f1⟩:=by
    unfold pC xW yW
    rw [hc0]
    simp
   rw [hp0] at hM1
   have hin0:inC (hi.f0 - lo.f0) (hi.f1 - lo.f1) (-lo.f0) (-lo.f1):=by
    have:=pC_in R B 0 (Nat.zero_le _)
    rw [hp0] at this
    exact this
   have hdraw:=liDraw_f g s hs ⟨-lo.f0,-lo.f1⟩ hin0 (K' + 1) (by omega)
   rw [hM1] at hdraw
   have hlE:∀ i,i < s.size → E i < figN (hi.f0 - lo.f0) (hi.f1 - lo.f1):=fun i hi' => ed_lt g (hfour i (by omega)) (hE i (by omega))
   have hNb:∀ c ∈ cellsW s.data.toList,(0 ≤ c.f0 ∧ c.f0 ≤ 4) ∧ (0 ≤ c.f1 ∧ c.f1 ≤ 4):=fun c hc => by
    have:=c1 c hc
    omega
   have hN:∀ a:Int,a ∈ (cellsW s.data.toList).map (numW (hi.f0 - lo.f0)) ↔ ∃ x y:Int,(0 ≤ x ∧ x < hi.f0 - lo.f0) ∧ (0 ≤ y ∧ y < hi.f1 - lo.f1) ∧ insD cs s.size lo x y = true ∧ a = y * (hi.f0 - lo.f0) + x:=fun a => by
    rw [List.mem_map,hcb]
    constructor
    ·rintro ⟨c,hc,rfl⟩
     obtain ⟨x,y,q1,q2,q3,rfl⟩:=(gridG_mem _ _ _ _).1 hc
     exact ⟨(x:Int),(y:Int),⟨Int.natCast_nonneg _,by omega⟩,⟨Int.natCast_nonneg _,by omega⟩,q3,rfl⟩
    ·rintro ⟨x,y,q1,q2,q3,rfl⟩
     obtain ⟨x',rfl⟩:=Int.eq_ofNat_of_zero_le q1.1
     obtain ⟨y',rfl⟩:=Int.eq_ofNat_of_zero_le q2.1
     exact ⟨⟨(x':Int),(y':Int)⟩,(gridG_mem _ _ _ _).2 ⟨x',y',by omega,by omega,q3,rfl⟩,rfl⟩
   have hsid:=sid_iff g rfl rfl R B hN E hpl
   have hfl:=figN_le g
   have hMB:M = bordN (hi.f0 - lo.f0) (hi.f1 - lo.f1) ((cellsW s.data.toList).map (numW (hi.f0 - lo.f0))) (figN (hi.f0 - lo.f0) (hi.f1 - lo.f1)):=by
    apply Nat.eq_of_testBit_eq
    intro e
    rw [bordN_test,Bool.eq_iff_iff,hM2,Bool.and_eq_true,decide_eq_true_eq]
    constructor
    ·rintro ⟨j,hj,rfl⟩
     have hlt:=hlE j (by omega)
     exact ⟨hlt,(hsid _ hlt).2 ⟨j,by omega,rfl⟩⟩
    ·rintro ⟨q1,q2⟩
     obtain ⟨j,hj,q⟩:=(hsid e q1).1 q2
     exact ⟨j,by omega,q⟩
   have hMlt:M < 2 ^ figN (hi.f0 - lo.f0) (hi.f1 - lo.f1):=by rw [hMB]; exact bordN_lt _ _ _ _
   have lA:=rowA_len g M
   have lU:=rowU_len g M
   refine ⟨(hi.f0 - lo.f0,hi.f1 - lo.f1,rowA (hi.f0 - lo.f0) (hi.f1 - lo.f1) M,rowU (hi.f0 - lo.f0) (hi.f1 - lo.f1) M,true),?_,fun k hk => ?_,by dsimp only; omega,by dsimp only; omega⟩
   ·rw [hS,hdraw]
    rfl
   ·have hlv:=levels_f g
    have hup:impl_grid_uprights.f (hi.f0 - lo.f0) (hi.f1 - lo.f1) = some ((((hi.f1 - lo.f1) * (hi.f0 - lo.f0 + 1)).toNat:Nat):Int):=by
     have g':GridOK (hi.f1 - lo.f1) (hi.f0 - lo.f0):=⟨g.h1,g.h4,g.w1,g.w4⟩
     have:=levels_f g'
     unfold impl_grid_levels.f at this
     unfold impl_grid_uprights.f
     exact this
    have hsum:wrap64 (((((hi.f0 - lo.f0) * (hi.f1 - lo.f1 + 1)).toNat:Nat):Int) + ((((hi.f1 - lo.f1) * (hi.f0 - lo.f0 + 1)).toNat:Nat):Int)) = ((figN (hi.f0 - lo.f0) (hi.f1 - lo.f1):Nat):Int):=by
     obtain ⟨q1,q2,q3⟩:=hfl
     unfold figN
     generalize ((hi.f0 - lo.f0) * (hi.f1 - lo.f1 + 1)).toNat = A at q2 ⊢
     generalize ((hi.f1 - lo.f1) * (hi.f0 - lo.f0 + 1)).toNat = C at q3 ⊢
     unfold wrap64; omega
    have hl0:=fol_l0 g (cellsW s.data.toList) hlen hNb (cellsW s.data.toList).length k 0 (Nat.sub_zero _) (Nat.zero_le _) (by omega)
    obtain ⟨k2,hk2⟩:∃ q,k - (cellsW s.data.toList).length = q + 1:=⟨k - (cellsW s.data.toList).length - 1,by omega⟩
    rw [hk2] at hl0
    have hl0:impl_FigureOfLoop.l0 k (hi.f0 - lo.f0) (([]:List Int)) (cellsW s.data.toList) ((cellsW s.data.toList).length:Int) 0 (hi.f0 - lo.f0) (hi.f1 - lo.f1) = _:=hl0
    have hNl:((cellsW s.data.toList).map (numW (hi.f0 - lo.f0))).length ≤ 1000:=by
     rw [List.length_map,hcb]
     have:=gridG_len0 (inQ cs lo s.size) (hi.f0 - lo.f0).toNat (hi.f1 - lo.f1).toNat
     have h16:(hi.f1 - lo.f1).toNat * (hi.f0 - lo.f0).toNat ≤ 4 * 4:=Nat.mul_le_mul (by omega) (by omega)
     omega
    have hbl:=border_l0 g ((cellsW s.data.toList).map (numW (hi.f0 - lo.f0))) hNl (figN (hi.f0 - lo.f0) (hi.f1 - lo.f1)) hfl.1 (figN (hi.f0 - lo.f0) (hi.f1 - lo.f1)) k2 0 (Nat.sub_zero _) (Nat.zero_le _) (Nat.le_trans (fig_bound hfl.1) (sub_bound hk2 hk hlen))
    rw [hM k hk,hl0,impl_FigureOfLoop.l0,if_neg (Int.lt_irrefl _)]
    unfold impl_grid_border.f
    rw [hlv,Option.bind_some,hup,Option.bind_some,hsum]
    have hbl:impl_grid_border.l0 k2 ((cellsW s.data.toList).map (numW (hi.f0 - lo.f0))) 0 ((figN (hi.f0 - lo.f0) (hi.f1 - lo.f1):Nat):Int) 0 (hi.f0 - lo.f0) (hi.f1 - lo.f1) = _:=hbl
    rw [hbl,Option.bind_some,← hMB,figure_f g hMlt,Option.bind_some]
  ·have hdec:(decide (1 ≤ hi.f0 - lo.f0) && decide (hi.f0 - lo.f0 ≤ 4) && decide (1 ≤ hi.f1 - lo.f1) && decide (hi.f1 - lo.f1 ≤ 4)) = false:=by
    rw [Bool.eq_false_iff]
    intro q
    simp only [Bool.and_eq_true,decide_eq_true_eq] at q
    exact hgr ⟨⟨q.1.1.1,q.1.1.2⟩,q.1.2,q.2⟩
   refine ⟨(0,0,([]:List Int),([]:List Int),false),?_,fun k hk => ?_,Nat.zero_le _,Nat.zero_le _⟩
   ·rw [hS,hg2,hdec,Option.bind_some,if_neg (by decide)]
   ·rw [hM k hk,hg,hdec,Option.bind_some,if_neg (by decide)]


def laws_roomBehind.f (a0:Int):Option (Int):=if (Int.tmod a0 6) = 5 then (some 0) else (if (Int.tmod a0 3) = 0 then (some 1) else (some a0))


def laws_szIntS.f (l0:List Int) (a1:Int):Option (Int):=if (wrap64 (a1 - (l0.length:Int))) < 0 then (some (-1)) else (some (wrap64 (a1 - (l0.length:Int))))

def laws_szFigure.f (a0_0:Int) (a0_1:Int) (l0_2:List Int) (l0_3:List Int) (a1:Int):Option (Int):=(laws_szIntS.f l0_2 a1).bind fun t233 => (if t233 < 0 then (some (-1)) else ((laws_szIntS.f l0_3 t233).bind fun t234 => (if t234 < 0 then (some (-1)) else (some t234))))

mutual
def laws_toIntS.j0:Nat → List Int → Bool → Option (List Int)
  | 0,_,_ => none
  | k + 1,x0,x13 => if x13 = true then (some ([]:List Int)) else ((laws_roomBehind.f (x0.length:Int)).bind fun t235 => (if 0 ≤ (wrap64 ((x0.length:Int) + t235)) then (if (wrap64 ((x0.length:Int) + t235):Int).toNat ≤ 35184372088832 then (laws_toIntS.l0 k x0 (List.replicate (wrap64 ((x0.length:Int) + t235):Int).toNat 0) 0) else (none)) else (none)))
def laws_toIntS.l0:Nat → List Int → List Int → Int → Option (List Int)
  | 0,_,_,_ => none
  | k + 1,x0,x5,x6 => if x6 < (x0.length:Int) then (if 0 ≤ x6 then (if x6 < (x5.length:Int) then (laws_toIntS.l0 k x0 (x5.set (x6:Int).toNat (rd x0 x6)) (wrap64 (x6 + 1))) else (none)) else (none)) else (laws_toIntS.l1 k x0 x5 (x0.length:Int))
def laws_toIntS.l1:Nat → List Int → List Int → Int → Option (List Int)
  | 0,_,_,_ => none
  | k + 1,x0,x5,x7 => if x7 < (x5.length:Int) then (if 0 ≤ x7 then (laws_toIntS.l1 k x0 (x5.set (x7:Int).toNat (-7000000000000000101)) (wrap64 (x7 + 1))) else (none)) else (if 0 ≤ (x0.length:Int) then (if (x0.length:Int) ≤ (x5.length:Int) then (some (x5.take ((x0.length:Int):Int).toNat)) else (none)) else (none))
end
def laws_toIntS.f (k:Nat) (l0:List Int) (a1:Bool):Option (List Int):=if a1 = true then (laws_toIntS.j0 k l0 ((l0.length:Int) == 0)) else (laws_toIntS.j0 k l0 false)
theorem laws_toIntS.mono_l:∀ k,(∀ y0 y1,LeO (laws_toIntS.j0 k y0 y1) (laws_toIntS.j0 (k + 1) y0 y1)) ∧ (∀ y0 y1 y2,LeO (laws_toIntS.l0 k y0 y1 y2) (laws_toIntS.l0 (k + 1) y0 y1 y2)) ∧ (∀ y0 y1 y2,LeO (laws_toIntS.l1 k y0 y1 y2) (laws_toIntS.l1 (k + 1) y0 y1 y2))
  | 0 => ⟨fun _ _ r h => by simp [laws_toIntS.j0] at h,fun _ _ _ r h => by simp [laws_toIntS.l0] at h,fun _ _ _ r h => by simp [laws_toIntS.l1] at h⟩
  | k + 1 => by
    obtain ⟨ih0,ih1,ih2⟩:=laws_toIntS.mono_l k
    refine ⟨?_,?_,?_⟩
    · intro y0 y1
      unfold laws_toIntS.j0
      repeat' first | (with_reducible first | exact ih0 _ _ | exact ih1 _ _ _ | exact ih2 _ _ _ | exact LeO.refl _ | exact LeO.none _ | refine LeO.ite ?_ ?_ | refine LeO.bind ?_ (fun _ => ?_)) | exact ih0 _ _ | exact ih1 _ _ _ | exact ih2 _ _ _
    · intro y0 y1 y2
      unfold laws_toIntS.l0
      repeat' first | (with_reducible first | exact ih0 _ _ | exact ih1 _ _ _ | exact ih2 _ _ _ | exact LeO.refl _ | exact LeO.none _ | refine LeO.ite ?_ ?_ | refine LeO.bind ?_ (fun _ => ?_)) | exact ih0 _ _ | exact ih1 _ _ _ | exact ih2 _ _ _
    · intro y0 y1 y2
      unfold laws_toIntS.l1
      repeat' first | (with_reducible first | exact ih0 _ _ | exact ih1 _ _ _ | exact ih2 _ _ _ | exact LeO.refl _ | exact LeO.none _ | refine LeO.ite ?_ ?_ | refine LeO.bind ?_ (fun _ => ?_)) | exact ih0 _ _ | exact ih1 _ _ _ | exact ih2 _ _ _
theorem laws_toIntS.mono:∀ a0 a1 k,LeO (laws_toIntS.f k a0 a1) (laws_toIntS.f (k + 1) a0 a1):=by
  intro a0 a1 k
  obtain ⟨ih0,ih1,ih2⟩:=laws_toIntS.mono_l k
  unfold laws_toIntS.f
  repeat' first | (with_reducible first | exact ih0 _ _ | exact ih1 _ _ _ | exact ih2 _ _ _ | exact LeO.refl _ | exact LeO.none _ | refine LeO.ite ?_ ?_ | refine LeO.bind ?_ (fun _ => ?_)) | exact ih0 _ _ | exact ih1 _ _ _ | exact ih2 _ _ _

def laws_toFigure.f (k:Nat) (a0_0:Int) (a0_1:Int) (l0_2:List Int) (l0_3:List Int) (a1:Bool):Option (Int × Int × List Int × List Int):=(laws_toIntS.f k l0_2 a1).bind fun t248 => ((laws_toIntS.f k l0_3 a1).bind fun t251 => (some (a0_0,a0_1,t248,t251)))
theorem laws_toFigure.mono:∀ a0 a1 a2 a3 a4 k,LeO (laws_toFigure.f k a0 a1 a2 a3 a4) (laws_toFigure.f (k + 1) a0 a1 a2 a3 a4):=by
  intro a0 a1 a2 a3 a4 k
  unfold laws_toFigure.f
  repeat' first | (with_reducible first | exact laws_toIntS.mono _ _ _ | exact LeO.refl _ | exact LeO.none _ | refine LeO.ite ?_ ?_ | refine LeO.bind ?_ (fun _ => ?_)) | exact laws_toIntS.mono _ _ _

def marks (n:Nat) (a:Int):List Int:=(List.range n).map fun (i:Nat) => a + (i:Int)
theorem markIntS_l0 (l:List Int) (a:Int) (ha:0 ≤ a) (hb:(l.length:Int) + a ≤ 100000000):∀ (d k kk:Nat),l.length - kk = d → kk ≤ l.length → d < k →
    laws_markIntS.l0 k (marks kk a ++ l.drop kk) (a + kk) (kk:Int) = some (a + l.length,marks l.length a):=by
  intro d
  induction d with
  | zero =>
    intro k kk h1 h2 h3
    obtain ⟨k,rfl⟩:∃ m,k = m + 1:=⟨k - 1,by omega⟩
    obtain rfl:kk = l.length:=by omega
    have hl:(marks l.length a ++ l.drop l.length).length = l.length:=by simp [marks]
    simp only [laws_markIntS.l0]
    rw [hl,if_neg (by omega),List.drop_length,List.append_nil]
  | succ d ih =>
    intro k kk h1 h2 h3
    obtain ⟨k,rfl⟩:∃ m,k = m + 1:=⟨k - 1,by omega⟩
    have hl:(marks kk a ++ l.drop kk).length = l.length:=by simp [marks]; omega
    have hmk:(marks kk a).length = kk:=by simp [marks]
    have e1:wrap64 (a + (kk:Int) + 1) = a + ((kk + 1:Nat):Int):=by unfold wrap64; omega
    have e2:wrap64 ((kk:Int) + 1) = ((kk + 1:Nat):Int):=by unfold wrap64; omega
    have e3:(marks kk a ++ l.drop kk).set kk (a + (kk:Int)) = marks (kk + 1) a ++ l.drop (kk + 1):=by
      rw [List.drop_eq_getElem_cons (show kk < l.length by omega),List.set_append,if_neg (by omega),hmk,Nat.sub_self,List.set_cons_zero]
      simp [marks,List.range_succ]
    simp only [laws_markIntS.l0]
    rw [hl,if_pos (by omega),if_pos (by omega),Int.toNat_natCast,e3,e1,e2]
    exact ih k (kk + 1) (by omega) (by omega) (by omega)
theorem markIntS_f (l:List Int) (a:Int) (ha:0 ≤ a) (hb:(l.length:Int) + a ≤ 100000000) (k:Nat) (hk:l.length < k):laws_markIntS.f k l a = some (a + l.length,marks l.length a):=by
  unfold laws_markIntS.f
  have:=markIntS_l0 l a ha hb l.length k 0 (by omega) (by omega) hk
  simpa [marks] using this
theorem markFigure_f (x y:Int) (l m:List Int) (hb:l.length + m.length ≤ 1000000) (k:Nat) (hk:3000010 < k):laws_markFigure.f k x y l m 101 = some (101 + (l.length:Int) + (m.length:Int),marks l.length 101,marks m.length (101 + (l.length:Int))):=by
  unfold laws_markFigure.f
  rw [markIntS_f l 101 (by omega) (by omega) k (by omega)]
  simp only [Option.bind_some]
  rw [markIntS_f m _ (by omega) (by omega) k (by omega)]
  rfl


theorem eqIntS_l0 (L:List Int) (hL:L.length ≤ 4000000):∀ (d:Nat) (k:Nat) (i:Nat),L.length - i = d → i ≤ L.length → d < k → laws_eqIntS.l0 k L L (i:Int) = some true:=by
  intro d
  induction d with
  | zero =>
    intro k i h1 h2 h3
    obtain ⟨k,rfl⟩:∃ m,k = m + 1:=⟨k - 1,by omega⟩
    simp only [laws_eqIntS.l0]
    rw [if_neg (by omega)]
  | succ d ih =>
    intro k i h1 h2 h3
    obtain ⟨k,rfl⟩:∃ m,k = m + 1:=⟨k - 1,by omega⟩
    simp only [laws_eqIntS.l0]
    rw [if_pos (by omega),if_pos (by omega),if_pos (by omega),if_pos trivial,show wrap64 ((i:Int) + 1) = ((i + 1:Nat):Int) by unfold wrap64; omega]
    exact ih k (i + 1) (by omega) (by omega) (by omega)
theorem eqIntS_refl (L:List Int) (hL:L.length ≤ 4000000) (k:Nat) (hk:L.length < k):laws_eqIntS.f k L L = some true:=by
  unfold laws_eqIntS.f
  rw [if_pos rfl]
  exact eqIntS_l0 L hL L.length k 0 (by omega) (by omega) hk
theorem marks_len (n:Nat) (a:Int):(marks n a).length = n:=by simp [marks]
theorem rd_marks (n:Nat) (a:Int) (i:Nat) (h:i < n):rd (marks n a) (i:Int) = a + (i:Int):=by
  rw [rd_nat _ _ (by rw [marks_len]; exact h)]
  simp [marks]
theorem heldIntS_l0 (n:Nat) (a:Int) (ha:0 ≤ a) (hb:(n:Int) + a ≤ 100000000):∀ (d k kk:Nat),n - kk = d → kk ≤ n → d < k → laws_heldIntS.l0 k (marks n a) (a + kk) (kk:Int) = some (a + n):=by
  intro d
  induction d with
  | zero =>
    intro k kk h1 h2 h3
    obtain ⟨k,rfl⟩:∃ m,k = m + 1:=⟨k - 1,by omega⟩
    obtain rfl:kk = n:=by omega
    simp only [laws_heldIntS.l0]
    rw [marks_len,if_neg (by omega)]
  | succ d ih =>
    intro k kk h1 h2 h3
    obtain ⟨k,rfl⟩:∃ m,k = m + 1:=⟨k - 1,by omega⟩
    have e1:wrap64 (a + (kk:Int) + 1) = a + ((kk + 1:Nat):Int):=by unfold wrap64; omega
    have e2:wrap64 ((kk:Int) + 1) = ((kk + 1:Nat):Int):=by unfold wrap64; omega
    simp only [laws_heldIntS.l0]
    rw [marks_len,if_pos (by omega),if_pos (by omega),rd_marks n a kk (by omega),e1,e2]
    first
      | (rw [if_pos rfl]; exact ih k (kk + 1) (by omega) (by omega) (by omega))
      | (rw [if_neg (by simp)]; exact ih k (kk + 1) (by omega) (by omega) (by omega))
theorem heldIntS_f (n:Nat) (a:Int) (ha:0 ≤ a) (hb:(n:Int) + a ≤ 100000000) (k:Nat) (hk:n < k):laws_heldIntS.f k (marks n a) a = some (a + (n:Int)):=by
  unfold laws_heldIntS.f
  have:=heldIntS_l0 n a ha hb n k 0 (by omega) (by omega) hk
  simpa using this

theorem eqFigure_refl (x y:Int) (l m:List Int) (hl:l.length ≤ 4000000) (hm:m.length ≤ 4000000) (k:Nat) (hk:4000000 < k):laws_eqFigure.f k x y l m x y l m = some true:=by
  unfold laws_eqFigure.f
  rw [if_pos rfl,if_pos rfl,eqIntS_refl l hl k (by omega),Option.bind_some,if_pos rfl,eqIntS_refl m hm k (by omega),Option.bind_some,if_pos rfl]
theorem heldFigure_f (x y:Int) (n2 n3:Nat) (hb:n2 + n3 ≤ 1000000) (k:Nat) (hk:4000000 < k):laws_heldFigure.f k x y (marks n2 101) (marks n3 (101 + (n2:Int))) 101 = some (101 + (n2:Int) + (n3:Int)):=by
  unfold laws_heldFigure.f
  rw [heldIntS_f n2 101 (by omega) (by omega) k (by omega),Option.bind_some,if_neg (by omega),heldIntS_f n3 _ (by omega) (by omega) k (by omega),Option.bind_some,if_neg (by omega)]
end Go.Proofs.YtehjfaddhmdicaaDoor.P
/- The law FnExactFigureOfLoop,as a statement of numbers and lists: both sides tell the same figure of every text; no condition. -/
namespace Go.Proofs.YtehjfaddhmdicaaDoor.Pure
open Go.RowKit Go.Proofs.YtehjfaddhmdicaaDoor.P Go.Proofs.YtehjfaddhmdicaaDoorW.PrintWords Go.Proofs.YtehjfaddhmdicaaDoorW.PrintLast
theorem FnExactFigureOfLoop:laws_FnExactFigureOfLoop.Pure:=by
  intro a0 _
  refine ⟨5000000,?_⟩
  unfold laws_FnExactFigureOfLoop.f
  by_cases h:(a0.size:Int) > 1000000
  · rw [if_pos h]
  · rw [if_neg h]
    have hs:a0.size ≤ 1000000:=by omega
    obtain ⟨o,h1,h2,h3,h4⟩:=FigureOfLoop_pure a0 hs 4999999 (by decide)
    have h1:spec_FigureOfLoop.f 5000000 a0 = some o:=h1
    rw [h1,Option.bind_some,h2 5000000 (by decide),Option.bind_some]
    clear h1
    obtain ⟨x,y,L,M,b⟩:=o
    have hL:L.length ≤ 64:=h3
    have hM:M.length ≤ 64:=h4
    clear h3 h4
    dsimp only
    have hbb:(b != b) = false:=by cases b <;> rfl
    rw [eqFigure_refl x y L M (by omega) (by omega) 5000000 (by decide),Option.bind_some,if_pos rfl,hbb,show (5000000:Nat) = 4999998 + 1 + 1 from rfl,laws_FnExactFigureOfLoop.j0,if_neg (by decide),markFigure_f x y L M (by omega) _ (by decide),Option.bind_some]
    dsimp only
    rw [heldFigure_f x y L.length M.length (by omega) _ (by decide),Option.bind_some,if_neg (by omega),if_pos rfl,h2 _ (by decide),Option.bind_some]
    dsimp only
    rw [eqFigure_refl x y L M (by omega) (by omega) _ (by decide),Option.bind_some,if_pos rfl,hbb,laws_FnExactFigureOfLoop.j1,if_neg (by decide),heldFigure_f x y L.length M.length (by omega) _ (by decide),Option.bind_some,if_neg (by omega),if_pos rfl]
end Go.Proofs.YtehjfaddhmdicaaDoor.Pure
/- What the row's listed variable,math/bits' table,gives a walk; a world in which it is laid. -/
namespace Go.Proofs.YtehjfaddhmdicaaDoor.LaidP
open Go.RowKit
theorem mapM_at {α β:Type} {f:α → Option β}:∀ {l:List α} {xs:List β},l.mapM f = some xs → ∀ (j:Nat) (x:α),l[j]? = some x → ∃ y,xs[j]? = some y ∧ f x = some y
  | [],xs,_,j,x,hj => by simp at hj
  | a :: l,xs,h,j,x,hj => by
    rw [List.mapM_cons] at h
    obtain ⟨y,hy,h⟩:=Option.bind_eq_some_iff.1 h
    obtain ⟨ys,hys,h⟩:=Option.bind_eq_some_iff.1 h
    obtain rfl:=Option.some.inj h
    cases j with
    | zero => simp at hj; subst hj; exact ⟨y,rfl,hy⟩
    | succ j => exact mapM_at hys j x (by simpa using hj)
theorem int_of_trod {H:Type} {enc:TypeId × Value → H} {P:Program} {w:World} {base:Nat} {sp:Nat → Bool} {held:Bool} {fuel:Nat} {t:TypeId} {k:IntKind} {c:Value} {y:DataW H × List MemPlace}
    (ht:P.underlying t = some (.int k)) (h:DataW.trod enc P w base sp held fuel t [c] = some y):∃ n,c = .int k n ∧ y = (.lit (.int k n),[]):=by
  cases fuel with
  | zero => simp [DataW.trod] at h
  | succ fuel =>
    cases c <;> simp [DataW.trod,ht] at h
    rename_i k' n
    obtain ⟨⟨rfl,_⟩,rfl⟩:=h
    exact ⟨n,rfl,rfl⟩
theorem bytes_of_trod {H:Type} {enc:TypeId × Value → H} {P:Program} {w:World} {base:Nat} {sp:Nat → Bool} {held:Bool} {fuel n:Nat} {t e:TypeId} {l:List Value} {tab:List Nat} {ps:List MemPlace} (ht:P.underlying t = some (.array n e)) (he:P.underlying e = some (.int .u8)) (h1:P.cellsOf t = n) (h2:P.cellsOf e = 1)
    (h:DataW.trod enc P w base sp held fuel t l = some (.agg (tab.map fun k:Nat => .lit (.int .u8 (k:Int))),ps)) (j:Nat) (hj:j < n):l[j]? = some (.int .u8 ((tab.getD j 0:Nat):Int)):=by
  cases fuel with
  | zero => simp [DataW.trod] at h
  | succ fuel =>
    simp only [DataW.trod,ht,h1,h2] at h
    split at h
    · rename_i hl
      obtain ⟨xs,hxs,hy⟩:=Option.map_eq_some_iff.1 h
      obtain ⟨y,hyj,hf⟩:=mapM_at hxs j j (by rw [List.getElem?_range hj])
      obtain ⟨c,hc⟩:∃ c,l[j]? = some c:=⟨l[j]'(by omega),List.getElem?_eq_getElem _⟩
      rw [Nat.mul_one,show (l.drop j).take 1 = [c] from by rw [List.drop_eq_getElem_cons (by omega)]; rw [List.getElem?_eq_getElem (by omega)] at hc; injection hc with hc; rw [hc]; rfl] at hf
      obtain ⟨m,rfl,rfl⟩:=int_of_trod he hf
      have h3:=(Prod.mk.inj hy).1
      injection h3 with h3
      have h4:=congrArg (fun q => q[j]?) h3
      simp only [List.getElem?_map,hyj,Option.map_some] at h4
      rw [hc,List.getD_eq_getElem?_getD]
      cases ht2:tab[j]? with
      | none => rw [ht2] at h4; cases h4
      | some q =>
        rw [ht2] at h4
        simp at h4
        rw [h4]; rfl
    · cases h
theorem gnum : Tryd.prog.globalNamed "math/bits.deBruijn64tab" = some 0 := by kernel_rfl
theorem gtype:(Tryd.prog.globals[0]?).map (·.type) = some 172:=by kernel_rfl
theorem cellsT:Tryd.prog.cellsOf 172 = 64:=by kernel_rfl
theorem cellsE:Tryd.prog.cellsOf 5 = 1:=by kernel_rfl
theorem tabIs:(Rows.laid_math_bits_deBruijn64tab:DataW Unit) = .agg (Lib.deBruijn64tab.map fun k => .lit (.int .u8 ((k:Nat):Int))):=by rfl
abbrev LAID : List (String × DataW Unit) := [("math/bits.deBruijn64tab", Rows.laid_math_bits_deBruijn64tab), ("unicode/utf8.acceptRanges", Rows.laid_unicode_utf8_acceptRanges), ("unicode/utf8.first", Rows.laid_unicode_utf8_first)]
theorem plain (w:World):laidMetH Tryd.prog LAID w → laidMet Tryd.prog LAID w:=fun h => h
theorem tb {W:World} (h:laidMetH Tryd.prog LAID W) (hs:W.ShapedOpen Tryd.prog):P.TB W:=by
  obtain ⟨ps,⟨g,t,cs,fuel,p,q,hg,ht,hvar,hd,_,_⟩,_⟩:=plain W h
  obtain rfl:=Option.some.inj (gnum.symm.trans hg)
  obtain rfl:=Option.some.inj (gtype.symm.trans ht)
  refine ⟨fun j hj => ?_,?_⟩
  · rw [World.var?_cell hg hvar j]
    rw [tabIs] at hd
    have:=bytes_of_trod Tryd.underlying172 Tryd.underlying5 cellsT cellsE hd j hj
    rw [← Array.getElem?_toList]
    exact this
  · exact Go.Proofs.cell_of_shapedOpen_int (zero:=#[.int .i64 0]) (t:=3) hs (of_decide_eq_true (by kernel_rfl)) (by kernel_rfl) rfl (by kernel_rfl) (by kernel_rfl) Tryd.underlying3
def cells64:Array Value:=(Lib.deBruijn64tab.map fun k => Value.int .u8 ((k:Nat):Int)).toArray
def cellsA:Array Value:=([128,191,160,191,128,159,144,191,128,143,0,0,0,0,0,0,0,0,0,0,0,0,0,0,0,0,0,0,0,0,0,0].map fun k:Nat => Value.int .u8 (k:Int)).toArray
def cellsF:Array Value:=(Go.Pinned.utf8FirstZ.map fun k:Nat => Value.int .u8 (k:Int)).toArray
def putCells (c:Array Value):Obj → Obj
  | .cells _ t frozen => .cells c t frozen
  | o => o
noncomputable def laidWorld (os:Os):World :=
  { World.holding Tryd.prog os ⟨#[],#[],[]⟩ with heap:=(((World.holding Tryd.prog os ⟨#[],#[],[]⟩).heap.modify 3 (putCells cellsA)).modify 2 (putCells cellsF)).modify 0 (putCells cells64) }
set_option maxRecDepth 100000 in
theorem laidWorld_met (os:Os) (args:Array Value):laidMetH Tryd.prog LAID ((laidWorld os).forCall (fun _ _ => 0) ⟨#[],args,[]⟩).memory :=
  laidMetH_of_parts (laidMet_of_run' 8 (by kernel_rfl) (by kernel_rfl)) (by kernel_rfl)
end Go.Proofs.YtehjfaddhmdicaaDoor.LaidP
