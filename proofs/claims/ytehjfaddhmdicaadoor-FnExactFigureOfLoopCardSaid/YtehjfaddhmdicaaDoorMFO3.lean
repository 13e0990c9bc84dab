/- For every input the law FnExactFigureOfLoop answers true: the program's FigureOfLoop tells what the reference's FigureOfLoop tells; no condition. (part 3 of the proof; the words of the kit's print tool and the texts of this seat, merged by a program) -/
import Derived.Test.YtehjfaddhmdicaaDoorMFO2
namespace Go.Proofs.YtehjfaddhmdicaaDoor.P
open Go.RowKit Go.Proofs.YtehjfaddhmdicaaDoorW.PrintWords Go.Proofs.YtehjfaddhmdicaaDoorW.PrintLast Go.Proofs.YtehjfaddhmdicaaDoorW.PrintMore
attribute [local go_sem] max2_int min2_int max_two min_two max_three min_three max_four min_four   -- for this text's walks alone
set_option linter.unusedVariables false
set_option linter.unusedSimpArgs false

def spec_liEdge.f (k:Nat) (a0_0:Int) (a0_1:Int) (l0_2:List Int) (l0_3:List Int) (a1_0:Int) (a1_1:Int) (a2:Int):Option (Int × Int × List Int × List Int):=if a2 = 0 then ((spec_fiPut.f k a0_0 a0_1 ([]:List Int) ([]:List Int) true a1_0 (wrap64 (a1_1 - 1))).bind fun bt716 => (some (bt716.1,bt716.2.1,bt716.2.2.1,bt716.2.2.2))) else (if a2 = 1 then ((spec_fiPut.f k a0_0 a0_1 ([]:List Int) ([]:List Int) false a1_0 a1_1).bind fun bt724 => (some (bt724.1,bt724.2.1,bt724.2.2.1,bt724.2.2.2))) else (if a2 = 2 then ((spec_fiPut.f k a0_0 a0_1 ([]:List Int) ([]:List Int) true a1_0 a1_1).bind fun bt732 => (some (bt732.1,bt732.2.1,bt732.2.2.1,bt732.2.2.2))) else ((spec_fiPut.f k a0_0 a0_1 ([]:List Int) ([]:List Int) false (wrap64 (a1_0 - 1)) a1_1).bind fun bt740 => (some (bt740.1,bt740.2.1,bt740.2.2.1,bt740.2.2.2)))))
theorem spec_liEdge.mono:∀ a0 a1 a2 a3 a4 a5 a6 k,LeO (spec_liEdge.f k a0 a1 a2 a3 a4 a5 a6) (spec_liEdge.f (k + 1) a0 a1 a2 a3 a4 a5 a6):=by
 intro a0 a1 a2 a3 a4 a5 a6 k
 unfold spec_liEdge.f
 repeat' first | (with_reducible first | exact spec_fiPut.mono _ _ _ _ _ _ _ _ | exact LeO.refl _ | exact LeO.none _ | refine LeO.ite ?_ ?_ | refine LeO.bind ?_ (fun _ => ?_)) | exact spec_fiPut.mono _ _ _ _ _ _ _ _
set_option maxHeartbeats 8000000 in
set_option maxRecDepth 100000 in
theorem spec_liEdge.calls (k:Nat) (a0_0:Int) (a0_1:Int) (A0_2:Option Addr) (c0_2:Nat) (l0_2:List Int) (A0_3:Option Addr) (c0_3:Nat) (l0_3:List Int) (a1_0:Int) (a1_1:Int) (a2:Int) (r1:Int) (r2:Int) (r3:List Int) (r4:List Int) (w:World) (hr0_2:Kd.C (Kd.int .i64) w A0_2 l0_2.length l0_2) (hc0_2:l0_2.length ≤ c0_2) (hr0_3:Kd.C (Kd.int .i64) w A0_3 l0_3.length l0_3) (hc0_3:l0_3.length ≤ c0_3) (h:spec_liEdge.f k a0_0 a0_1 l0_2 l0_3 a1_0 a1_1 a2 = some (r1,r2,r3,r4)) :
  Calls Tryd.prog 116 #[.agg #[.int .i64 a0_0,.int .i64 a0_1,.slice A0_2 l0_2.length c0_2,.slice A0_3 l0_3.length c0_3],.agg #[.int .i64 a1_0,.int .i64 a1_1],.int .i64 a2] w fun e w' => ∃ v2_ v3_:Value,e = .returned (.agg #[.int .i64 r1,.int .i64 r2,v2_,v3_]) ∧ Kd.R (Kd.int .i64) 3 w' w.heap.size (fun k_ => some k_ ≠ (v3_:Value).ownBlock) v2_ r3 ∧ Kd.R (Kd.int .i64) 3 w' w.heap.size (fun k_ => some k_ ≠ (v2_:Value).ownBlock) v3_ r4 ∧ Below w.heap.size w w':=by
 have hu36:=Tryd.underlying36
 have hu84:=Tryd.underlying84
 have HR0_2:=am_ hr0_2
 have HC0_2:=am_ hc0_2
 clear hr0_2 hc0_2
 have HR0_3:=am_ hr0_3
 have HC0_3:=am_ hc0_3
 clear hr0_3 hc0_3
 have HB:=am_ (Below.refl w.heap.size w)
 have H:(if a2 = 0 then ((spec_fiPut.f k a0_0 a0_1 ([]:List Int) ([]:List Int) true a1_0 (wrap64 (a1_1 - 1))).bind fun bt716 => (some (bt716.1,bt716.2.1,bt716.2.2.1,bt716.2.2.2))) else (if a2 = 1 then ((spec_fiPut.f k a0_0 a0_1 ([]:List Int) ([]:List Int) false a1_0 a1_1).bind fun bt724 => (some (bt724.1,bt724.2.1,bt724.2.2.1,bt724.2.2.2))) else (if a2 = 2 then ((spec_fiPut.f k a0_0 a0_1 ([]:List Int) ([]:List Int) true a1_0 a1_1).bind fun bt732 => (some (bt732.1,bt732.2.1,bt732.2.2.1,bt732.2.2.2))) else ((spec_fiPut.f k a0_0 a0_1 ([]:List Int) ([]:List Int) false (wrap64 (a1_0 - 1)) a1_1).bind fun bt740 => (some (bt740.1,bt740.2.1,bt740.2.2.1,bt740.2.2.2)))))) = some (r1,r2,r3,r4):=h
 clear h
 by_cases c4:a2 = 0
 ·rw [if_pos c4] at H
  have c4b0:(a2 == 0) = true:=beq_iff_eq.mpr c4
  have c4b1:(a2 != 0) = false:=bne_eq_false_iff_eq.mpr c4
  clear c4
  replace H:=bi_ H
  obtain ⟨⟨t716,t717,t718,t721⟩,A50,H⟩:=H
  replace H:(some (t716,t717,t718,t721)) = some (r1,r2,r3,r4):=H
  have A5:=am_ A50
  clear A50
  simp only [Option.some.injEq,Prod.mk.injEq] at H
  obtain ⟨rfl,rfl,rfl,rfl⟩:=H
  go_enter Tryd.func116,Tryd.ntmps116
  go_wp2_with (first | ((with_reducible refine gate_dst (N:=3) rfl ?_); refine boxE_ (N:=3) (cs:=#[.int .i64 a0_0,.int .i64 a0_1,.slice A0_2 l0_2.length c0_2,.slice A0_3 l0_3.length c0_3]) (t:=36) ?_; intro gb712 hg w6 hbox hb; have n0_:=am_ (below_step (bl0_ HB.out) hb); have n1_:=am_ (hbox); have n2_:=am_ ((bs0_ hg HB.out:w.heap.size ≤ gb712)); have n3_:=am_ ((bs0_ hg HB.out:w.heap.size ≤ gb712)); clear HB; have HB:=n0_; have BK712:=n1_; have GW712:=n2_; have GE712:=n3_; clear n0_ n1_ n2_ n3_; clear hb hbox hg) | ((with_reducible refine gate_dst (N:=4) rfl ?_); refine boxE_ (N:=4) (cs:=#[.int .i64 a1_0,.int .i64 a1_1]) (t:=84) ?_; intro gb713 hg w7 hbox hb; have n0_:=am_ (bb_ BK712.out hb); have n1_:=am_ (below_step (bl1_ HB.out GE712.out) hb); have n2_:=am_ (hbox); have n3_:=am_ ((bs1_ hg HB.out GE712.out:w.heap.size ≤ gb713)); have n4_:=am_ ((bs1_ hg HB.out GE712.out:w.heap.size ≤ gb713)); have n5_:=am_ ((nl_ hg BK712.out:gb712 ≠ gb713)); have n6_:=am_ ((ng_ hg BK712.out:gb713 ≠ gb712)); clear BK712; clear HB; have BK712:=n0_; have HB:=n1_; have BK713:=n2_; have GW713:=n3_; have GE713:=n4_; have NB712_713:=n5_; have NB713_712:=n6_; clear n0_ n1_ n2_ n3_ n4_ n5_ n6_; clear hb hbox hg) | ((with_reducible refine gate_dst (N:=6) rfl ?_); refine boxE_ (N:=6) (cs:=#[.int .i64 0,.int .i64 0,.slice none 0 0,.slice none 0 0]) (t:=36) ?_; intro gb714 hg w8 hbox hb; have n0_:=am_ (bb_ BK712.out hb); have n1_:=am_ (bb_ BK713.out hb); have n2_:=am_ (below_step (bl2_ HB.out GE712.out GE713.out) hb); have n3_:=am_ (hbox); have n4_:=am_ ((bs2_ hg HB.out GE712.out GE713.out:w.heap.size ≤ gb714)); have n5_:=am_ ((bs2_ hg HB.out GE712.out GE713.out:w.heap.size ≤ gb714)); have n6_:=am_ ((nl_ hg BK712.out:gb712 ≠ gb714)); have n7_:=am_ ((ng_ hg BK712.out:gb714 ≠ gb712)); have n8_:=am_ ((nl_ hg BK713.out:gb713 ≠ gb714)); have n9_:=am_ ((ng_ hg BK713.out:gb714 ≠ gb713)); clear BK712; clear BK713; clear HB; have BK712:=n0_; have BK713:=n1_; have HB:=n2_; have BK714:=n3_; have GW714:=n4_; have GE714:=n5_; have NB712_714:=n6_; have NB714_712:=n7_; have NB713_714:=n8_; have NB714_713:=n9_; clear n0_ n1_ n2_ n3_ n4_ n5_ n6_ n7_ n8_ n9_; clear hb hbox hg; have hnb9:=NB712_713.out; have hnc9:=NB713_712.out; have hnb10:=NB712_714.out; have hnc10:=NB714_712.out; have hcz11_0:w8.cell? ⟨gb712,0,none⟩ = some (.int .i64 a0_0):=(bc_ BK712.out 0).trans rfl; have hcz11_1:w8.cell? ⟨gb712,1,none⟩ = some (.int .i64 a0_1):=(bc_ BK712.out 1).trans rfl; have hcz11_2:w8.cell? ⟨gb712,2,none⟩ = some (.slice A0_2 l0_2.length c0_2):=(bc_ BK712.out 2).trans rfl; have hcz11_3:w8.cell? ⟨gb712,3,none⟩ = some (.slice A0_3 l0_3.length c0_3):=(bc_ BK712.out 3).trans rfl; have hfz11_0:=bz_ BK712.out 0; have hfz11_1:=bz_ BK712.out 1; have hfz11_2:=bz_ BK712.out 2; have hfz11_3:=bz_ BK712.out 3) | ((with_reducible refine gate_dst (N:=7) rfl ?_); refine boxE_ (N:=7) (cs:=#[.int .i64 0,.int .i64 0,.slice none 0 0,.slice none 0 0]) (t:=36) ?_; intro gb715 hg w12 hbox hb; have n0_:=am_ (bb_ BK712.out hb); have n1_:=am_ (bb_ BK713.out hb); have n2_:=am_ (bb_ BK714.out hb); have n3_:=am_ (below_step (bl3_ HB.out GE712.out GE713.out GE714.out) hb); have n4_:=am_ (hbox); have n5_:=am_ ((bs3_ hg HB.out GE712.out GE713.out GE714.out:w.heap.size ≤ gb715)); have n6_:=am_ ((bs3_ hg HB.out GE712.out GE713.out GE714.out:w.heap.size ≤ gb715)); have n7_:=am_ ((nl_ hg BK712.out:gb712 ≠ gb715)); have n8_:=am_ ((ng_ hg BK712.out:gb715 ≠ gb712)); have n9_:=am_ ((nl_ hg BK713.out:gb713 ≠ gb715)); have n10_:=am_ ((ng_ hg BK713.out:gb715 ≠ gb713)); have n11_:=am_ ((nl_ hg BK714.out:gb714 ≠ gb715)); have n12_:=am_ ((ng_ hg BK714.out:gb715 ≠ gb714)); clear BK712; clear BK713; clear BK714; clear HB; have BK712:=n0_; have BK713:=n1_; have BK714:=n2_; have HB:=n3_; have BK715:=n4_; have GW715:=n5_; have GE715:=n6_; have NB712_715:=n7_; have NB715_712:=n8_; have NB713_715:=n9_; have NB715_713:=n10_; have NB714_715:=n11_; have NB715_714:=n12_; clear n0_ n1_ n2_ n3_ n4_ n5_ n6_ n7_ n8_ n9_ n10_ n11_ n12_; clear hb hbox hg; have hnb13:=NB715_712.out; have hnc13:=NB712_715.out; have hnb14:=NB715_713.out; have hnc14:=NB713_715.out; have hnb15:=NB715_714.out; have hnc15:=NB714_715.out; have hcz16_0:w12.cell? ⟨gb715,0,none⟩ = some (.int .i64 0):=(bc_ BK715.out 0).trans rfl; have hcz16_1:w12.cell? ⟨gb715,1,none⟩ = some (.int .i64 0):=(bc_ BK715.out 1).trans rfl; have hcz16_2:w12.cell? ⟨gb715,2,none⟩ = some (.slice none 0 0):=(bc_ BK715.out 2).trans rfl; have hcz16_3:w12.cell? ⟨gb715,3,none⟩ = some (.slice none 0 0):=(bc_ BK715.out 3).trans rfl; have hfz16_0:=bz_ BK715.out 0; have hfz16_1:=bz_ BK715.out 1; have hfz16_2:=bz_ BK715.out 2; have hfz16_3:=bz_ BK715.out 3; have hnb17:=NB713_714.out; have hnc17:=NB714_713.out; have hcz18_0:w12.cell? ⟨gb713,0,none⟩ = some (.int .i64 a1_0):=(bc_ BK713.out 0).trans rfl; have hcz18_1:w12.cell? ⟨gb713,1,none⟩ = some (.int .i64 a1_1):=(bc_ BK713.out 1).trans rfl; have hfz18_0:=bz_ BK713.out 0; have hfz18_1:=bz_ BK713.out 1) | ((with_reducible refine gate_callee (f:=138) rfl ?_); refine goesL_ (some 22) rfl rfl Tryd.func138 (by kernel_rfl) rfl #[.agg #[.int .i64 a0_0,.int .i64 a0_1,.slice none 0 0,.slice none 0 0],.bool true,.int .i64 a1_0,.int .i64 (wrap64 (a1_1 - 1))] rfl ob_ ?_; (refine (spec_fiPut.calls k a0_0 a0_1 _ _ ([]:List Int) _ _ ([]:List Int) true a1_0 (wrap64 (a1_1 - 1)) t716 t717 t718 t721 _ ?side1 ?side2 ?side3 ?side4 A5.out).mono ?_); (case side1 => exact Kd.C_nil _ _); (case side2 => exact Nat.le_refl _); (case side3 => exact Kd.C_nil _ _); (case side4 => exact Nat.le_refl _); rintro e w19 ⟨v719,v722,rfl,ho0,ho1,hb⟩; refine ⟨_,rfl,?_⟩; have n0_:=am_ (Kd.R_lower ho0 (below_size (bl4_ HB.out GE712.out GE713.out GE714.out GE715.out))); have n1_:=am_ (Kd.R_lower ho1 (below_size (bl4_ HB.out GE712.out GE713.out GE714.out GE715.out))); have n2_:=am_ (blk_below (g:=gb712) (o:=.cells #[.int .i64 a0_0,.int .i64 a0_1,.slice A0_2 l0_2.length c0_2,.slice A0_3 l0_3.length c0_3] 36 (0,0)) (bf4_ NB712_715.out NB712_715.out NB712_715.out NB712_715.out BK712.out) hb); have n3_:=am_ (blk_below (g:=gb713) (o:=.cells #[.int .i64 a1_0,.int .i64 a1_1] 84 (0,0)) (bf4_ NB713_715.out NB713_715.out NB713_715.out NB713_715.out BK713.out) hb); have n4_:=am_ (blk_below (g:=gb714) (o:=.cells #[.int .i64 0,.int .i64 0,.slice none 0 0,.slice none 0 0] 36 (0,0)) (bf4_ NB714_715.out NB714_715.out NB714_715.out NB714_715.out BK714.out) hb); have n5_:=am_ (blk_below (g:=gb715) (o:=.cells #[.int .i64 a0_0,.int .i64 a0_1,.slice none 0 0,.slice none 0 0] 36 (0,0)) (by (with_reducible repeat (first | refine blk_drewN ?_ _ | refine blk_drew ?_ | refine blk_alloc ?_ _)); refine blk_put (cs:=#[.int .i64 a0_0,.int .i64 a0_1,.slice none 0 0,.slice none 0 0]) ?_ 3 _ rfl; (with_reducible repeat (first | refine blk_drewN ?_ _ | refine blk_drew ?_ | refine blk_alloc ?_ _)); refine blk_put (cs:=#[.int .i64 a0_0,.int .i64 a0_1,.slice none 0 0,.slice none 0 0]) ?_ 2 _ rfl; (with_reducible repeat (first | refine blk_drewN ?_ _ | refine blk_drew ?_ | refine blk_alloc ?_ _)); refine blk_put (cs:=#[.int .i64 a0_0,.int .i64 0,.slice none 0 0,.slice none 0 0]) ?_ 1 _ rfl; (with_reducible repeat (first | refine blk_drewN ?_ _ | refine blk_drew ?_ | refine blk_alloc ?_ _)); refine blk_put (cs:=#[.int .i64 0,.int .i64 0,.slice none 0 0,.slice none 0 0]) ?_ 0 _ rfl; (with_reducible repeat (first | refine blk_drewN ?_ _ | refine blk_drew ?_ | refine blk_alloc ?_ _)); exact BK715.out) hb); have n6_:=am_ (below_step (bl4_ HB.out GE712.out GE713.out GE714.out GE715.out) hb); clear BK712; clear BK713; clear BK714; clear BK715; clear HB; have HO720:=n0_; have HO723:=n1_; have BK712:=n2_; have BK713:=n3_; have BK714:=n4_; have BK715:=n5_; have HB:=n6_; clear n0_ n1_ n2_ n3_ n4_ n5_ n6_; (try clear hb); (try clear hb2); (try clear hk); (try clear hi); (try clear ho0); (try clear ho1); have hcz20_0:w19.cell? ⟨gb714,0,none⟩ = some (.int .i64 0):=(bc_ BK714.out 0).trans rfl; have hcz20_1:w19.cell? ⟨gb714,1,none⟩ = some (.int .i64 0):=(bc_ BK714.out 1).trans rfl; have hcz20_2:w19.cell? ⟨gb714,2,none⟩ = some (.slice none 0 0):=(bc_ BK714.out 2).trans rfl; have hcz20_3:w19.cell? ⟨gb714,3,none⟩ = some (.slice none 0 0):=(bc_ BK714.out 3).trans rfl; have hfz20_0:=bz_ BK714.out 0; have hfz20_1:=bz_ BK714.out 1; have hfz20_2:=bz_ BK714.out 2; have hfz20_3:=bz_ BK714.out 3; obtain ⟨Ao21,co21,eo21⟩:=Kd.R_slice HO720.out; subst eo21; obtain ⟨Ao22,co22,eo22⟩:=Kd.R_slice HO723.out; subst eo22))
  refine bodyPost_ret (results_cell_row rfl _ _ gb714 36 #[.int .i64 t716,.int .i64 t717,.slice Ao21 t718.length co21,.slice Ao22 t721.length co22] (0,0) _ rfl (by (with_reducible repeat (first | refine blk_drewN ?_ _ | refine blk_drew ?_ | refine blk_alloc ?_ _)); refine blk_put (cs:=#[.int .i64 t716,.int .i64 t717,.slice Ao21 t718.length co21,.slice none 0 0]) ?_ 3 _ rfl; (with_reducible repeat (first | refine blk_drewN ?_ _ | refine blk_drew ?_ | refine blk_alloc ?_ _)); refine blk_put (cs:=#[.int .i64 t716,.int .i64 t717,.slice none 0 0,.slice none 0 0]) ?_ 2 _ rfl; (with_reducible repeat (first | refine blk_drewN ?_ _ | refine blk_drew ?_ | refine blk_alloc ?_ _)); refine blk_put (cs:=#[.int .i64 t716,.int .i64 0,.slice none 0 0,.slice none 0 0]) ?_ 1 _ rfl; (with_reducible repeat (first | refine blk_drewN ?_ _ | refine blk_drew ?_ | refine blk_alloc ?_ _)); refine blk_put (cs:=#[.int .i64 0,.int .i64 0,.slice none 0 0,.slice none 0 0]) ?_ 0 _ rfl; (with_reducible repeat (first | refine blk_drewN ?_ _ | refine blk_drew ?_ | refine blk_alloc ?_ _)); exact BK714.out) Tryd.underlying36 rfl (by kernel_rfl)) rfl ?_
  exact ⟨_,_,er_,by (with_reducible repeat (first | apply Kd.R_alloc | apply Kd.R_drewN | apply Kd.R_drew)); exact Kd.R_mono (Kd.R_far (p:=⟨gb714,3,none⟩) (Kd.R_far (p:=⟨gb714,2,none⟩) (Kd.R_far (p:=⟨gb714,1,none⟩) (Kd.R_far (p:=⟨gb714,0,none⟩) (Kd.R_types HO720.out BK714.out (by decide)) (fun _ hk => hk.2) (.int .i64 t716)) (fun _ hk => hk.2) (.int .i64 t717)) (fun _ hk => hk.2) (.slice Ao21 t718.length co21)) (fun _ hk => hk.2) (.slice Ao22 t721.length co22)) (fun _ hk => hk.1),by (with_reducible repeat (first | apply Kd.R_alloc | apply Kd.R_drewN | apply Kd.R_drew)); exact Kd.R_mono (Kd.R_far (p:=⟨gb714,3,none⟩) (Kd.R_far (p:=⟨gb714,2,none⟩) (Kd.R_far (p:=⟨gb714,1,none⟩) (Kd.R_far (p:=⟨gb714,0,none⟩) (Kd.R_types HO723.out BK714.out (by decide)) (fun _ hk => hk.2) (.int .i64 t716)) (fun _ hk => hk.2) (.int .i64 t717)) (fun _ hk => hk.2) (.slice Ao21 t718.length co21)) (fun _ hk => hk.2) (.slice Ao22 t721.length co22)) (fun _ hk => hk.1),bl4_ HB.out GE712.out GE713.out GE714.out GE715.out⟩
 ·rw [if_neg c4] at H
  have c4b0:(a2 == 0) = false:=beq_eq_false_iff_ne.mpr c4
  have c4b1:(a2 != 0) = true:=bne_iff_ne.mpr c4
  by_cases c23:a2 = 1
  ·rw [if_pos c23] at H
   have c23b0:(a2 == 1) = true:=beq_iff_eq.mpr c23
   have c23b1:(a2 != 1) = false:=bne_eq_false_iff_eq.mpr c23
   clear c23
   replace H:=bi_ H
   obtain ⟨⟨t724,t725,t726,t729⟩,A240,H⟩:=H
   replace H:(some (t724,t725,t726,t729)) = some (r1,r2,r3,r4):=H
   have A24:=am_ A240
   clear A240
   simp only [Option.some.injEq,Prod.mk.injEq] at H
   obtain ⟨rfl,rfl,rfl,rfl⟩:=H
   go_enter Tryd.func116,Tryd.ntmps116
   go_wp2_with (first | ((with_reducible refine gate_dst (N:=3) rfl ?_); refine boxE_ (N:=3) (cs:=#[.int .i64 a0_0,.int .i64 a0_1,.slice A0_2 l0_2.length c0_2,.slice A0_3 l0_3.length c0_3]) (t:=36) ?_; intro gb712 hg w25 hbox hb; have n0_:=am_ (below_step (bl0_ HB.out) hb); have n1_:=am_ (hbox); have n2_:=am_ ((bs0_ hg HB.out:w.heap.size ≤ gb712)); have n3_:=am_ ((bs0_ hg HB.out:w.heap.size ≤ gb712)); clear HB; have HB:=n0_; have BK712:=n1_; have GW712:=n2_; have GE712:=n3_; clear n0_ n1_ n2_ n3_; clear hb hbox hg) | ((with_reducible refine gate_dst (N:=4) rfl ?_); refine boxE_ (N:=4) (cs:=#[.int .i64 a1_0,.int .i64 a1_1]) (t:=84) ?_; intro gb713 hg w26 hbox hb; have n0_:=am_ (bb_ BK712.out hb); have n1_:=am_ (below_step (bl1_ HB.out GE712.out) hb); have n2_:=am_ (hbox); have n3_:=am_ ((bs1_ hg HB.out GE712.out:w.heap.size ≤ gb713)); have n4_:=am_ ((bs1_ hg HB.out GE712.out:w.heap.size ≤ gb713)); have n5_:=am_ ((nl_ hg BK712.out:gb712 ≠ gb713)); have n6_:=am_ ((ng_ hg BK712.out:gb713 ≠ gb712)); clear BK712; clear HB; have BK712:=n0_; have HB:=n1_; have BK713:=n2_; have GW713:=n3_; have GE713:=n4_; have NB712_713:=n5_; have NB713_712:=n6_; clear n0_ n1_ n2_ n3_ n4_ n5_ n6_; clear hb hbox hg) | ((with_reducible refine gate_dst (N:=6) rfl ?_); refine boxE_ (N:=6) (cs:=#[.int .i64 0,.int .i64 0,.slice none 0 0,.slice none 0 0]) (t:=36) ?_; intro gb714 hg w27 hbox hb; have n0_:=am_ (bb_ BK712.out hb); have n1_:=am_ (bb_ BK713.out hb); have n2_:=am_ (below_step (bl2_ HB.out GE712.out GE713.out) hb); have n3_:=am_ (hbox); have n4_:=am_ ((bs2_ hg HB.out GE712.out GE713.out:w.heap.size ≤ gb714)); have n5_:=am_ ((bs2_ hg HB.out GE712.out GE713.out:w.heap.size ≤ gb714)); have n6_:=am_ ((nl_ hg BK712.out:gb712 ≠ gb714)); have n7_:=am_ ((ng_ hg BK712.out:gb714 ≠ gb712)); have n8_:=am_ ((nl_ hg BK713.out:gb713 ≠ gb714)); have n9_:=am_ ((ng_ hg BK713.out:gb714 ≠ gb713)); clear BK712; clear BK713; clear HB; have BK712:=n0_; have BK713:=n1_; have HB:=n2_; have BK714:=n3_; have GW714:=n4_; have GE714:=n5_; have NB712_714:=n6_; have NB714_712:=n7_; have NB713_714:=n8_; have NB714_713:=n9_; clear n0_ n1_ n2_ n3_ n4_ n5_ n6_ n7_ n8_ n9_; clear hb hbox hg; have hnb28:=NB712_713.out; have hnc28:=NB713_712.out; have hnb29:=NB712_714.out; have hnc29:=NB714_712.out; have hcz30_0:w27.cell? ⟨gb712,0,none⟩ = some (.int .i64 a0_0):=(bc_ BK712.out 0).trans rfl; have hcz30_1:w27.cell? ⟨gb712,1,none⟩ = some (.int .i64 a0_1):=(bc_ BK712.out 1).trans rfl; have hcz30_2:w27.cell? ⟨gb712,2,none⟩ = some (.slice A0_2 l0_2.length c0_2):=(bc_ BK712.out 2).trans rfl; have hcz30_3:w27.cell? ⟨gb712,3,none⟩ = some (.slice A0_3 l0_3.length c0_3):=(bc_ BK712.out 3).trans rfl; have hfz30_0:=bz_ BK712.out 0; have hfz30_1:=bz_ BK712.out 1; have hfz30_2:=bz_ BK712.out 2; have hfz30_3:=bz_ BK712.out 3) | ((with_reducible refine gate_dst (N:=7) rfl ?_); refine boxE_ (N:=7) (cs:=#[.int .i64 0,.int .i64 0,.slice none 0 0,.slice none 0 0]) (t:=36) ?_; intro gb715 hg w31 hbox hb; have n0_:=am_ (bb_ BK712.out hb); have n1_:=am_ (bb_ BK713.out hb); have n2_:=am_ (bb_ BK714.out hb); have n3_:=am_ (below_step (bl3_ HB.out GE712.out GE713.out GE714.out) hb); have n4_:=am_ (hbox); have n5_:=am_ ((bs3_ hg HB.out GE712.out GE713.out GE714.out:w.heap.size ≤ gb715)); have n6_:=am_ ((bs3_ hg HB.out GE712.out GE713.out GE714.out:w.heap.size ≤ gb715)); have n7_:=am_ ((nl_ hg BK712.out:gb712 ≠ gb715)); have n8_:=am_ ((ng_ hg BK712.out:gb715 ≠ gb712)); have n9_:=am_ ((nl_ hg BK713.out:gb713 ≠ gb715)); have n10_:=am_ ((ng_ hg BK713.out:gb715 ≠ gb713)); have n11_:=am_ ((nl_ hg BK714.out:gb714 ≠ gb715)); have n12_:=am_ ((ng_ hg BK714.out:gb715 ≠ gb714)); clear BK712; clear BK713; clear BK714; clear HB; have BK712:=n0_; have BK713:=n1_; have BK714:=n2_; have HB:=n3_; have BK715:=n4_; have GW715:=n5_; have GE715:=n6_; have NB712_715:=n7_; have NB715_712:=n8_; have NB713_715:=n9_; have NB715_713:=n10_; have NB714_715:=n11_; have NB715_714:=n12_; clear n0_ n1_ n2_ n3_ n4_ n5_ n6_ n7_ n8_ n9_ n10_ n11_ n12_; clear hb hbox hg; have hnb32:=NB715_712.out; have hnc32:=NB712_715.out; have hnb33:=NB715_713.out; have hnc33:=NB713_715.out; have hnb34:=NB715_714.out; have hnc34:=NB714_715.out; have hcz35_0:w31.cell? ⟨gb715,0,none⟩ = some (.int .i64 0):=(bc_ BK715.out 0).trans rfl; have hcz35_1:w31.cell? ⟨gb715,1,none⟩ = some (.int .i64 0):=(bc_ BK715.out 1).trans rfl; have hcz35_2:w31.cell? ⟨gb715,2,none⟩ = some (.slice none 0 0):=(bc_ BK715.out 2).trans rfl; have hcz35_3:w31.cell? ⟨gb715,3,none⟩ = some (.slice none 0 0):=(bc_ BK715.out 3).trans rfl; have hfz35_0:=bz_ BK715.out 0; have hfz35_1:=bz_ BK715.out 1; have hfz35_2:=bz_ BK715.out 2; have hfz35_3:=bz_ BK715.out 3; have hnb36:=NB713_714.out; have hnc36:=NB714_713.out; have hcz37_0:w31.cell? ⟨gb713,0,none⟩ = some (.int .i64 a1_0):=(bc_ BK713.out 0).trans rfl; have hcz37_1:w31.cell? ⟨gb713,1,none⟩ = some (.int .i64 a1_1):=(bc_ BK713.out 1).trans rfl; have hfz37_0:=bz_ BK713.out 0; have hfz37_1:=bz_ BK713.out 1) | ((with_reducible refine gate_callee (f:=138) rfl ?_); refine goesL_ (some 30) rfl rfl Tryd.func138 (by kernel_rfl) rfl #[.agg #[.int .i64 a0_0,.int .i64 a0_1,.slice none 0 0,.slice none 0 0],.bool false,.int .i64 a1_0,.int .i64 a1_1] rfl ob_ ?_; (refine (spec_fiPut.calls k a0_0 a0_1 _ _ ([]:List Int) _ _ ([]:List Int) false a1_0 a1_1 t724 t725 t726 t729 _ ?side1 ?side2 ?side3 ?side4 A24.out).mono ?_); (case side1 => exact Kd.C_nil _ _); (case side2 => exact Nat.le_refl _); (case side3 => exact Kd.C_nil _ _); (case side4 => exact Nat.le_refl _); rintro e w38 ⟨v727,v730,rfl,ho0,ho1,hb⟩; refine ⟨_,rfl,?_⟩; have n0_:=am_ (Kd.R_lower ho0 (below_size (bl4_ HB.out GE712.out GE713.out GE714.out GE715.out))); have n1_:=am_ (Kd.R_lower ho1 (below_size (bl4_ HB.out GE712.out GE713.out GE714.out GE715.out))); have n2_:=am_ (blk_below (g:=gb712) (o:=.cells #[.int .i64 a0_0,.int .i64 a0_1,.slice A0_2 l0_2.length c0_2,.slice A0_3 l0_3.length c0_3] 36 (0,0)) (bf4_ NB712_715.out NB712_715.out NB712_715.out NB712_715.out BK712.out) hb); have n3_:=am_ (blk_below (g:=gb713) (o:=.cells #[.int .i64 a1_0,.int .i64 a1_1] 84 (0,0)) (bf4_ NB713_715.out NB713_715.out NB713_715.out NB713_715.out BK713.out) hb); have n4_:=am_ (blk_below (g:=gb714) (o:=.cells #[.int .i64 0,.int .i64 0,.slice none 0 0,.slice none 0 0] 36 (0,0)) (bf4_ NB714_715.out NB714_715.out NB714_715.out NB714_715.out BK714.out) hb); have n5_:=am_ (blk_below (g:=gb715) (o:=.cells #[.int .i64 a0_0,.int .i64 a0_1,.slice none 0 0,.slice none 0 0] 36 (0,0)) (by (with_reducible repeat (first | refine blk_drewN ?_ _ | refine blk_drew ?_ | refine blk_alloc ?_ _)); refine blk_put (cs:=#[.int .i64 a0_0,.int .i64 a0_1,.slice none 0 0,.slice none 0 0]) ?_ 3 _ rfl; (with_reducible repeat (first | refine blk_drewN ?_ _ | refine blk_drew ?_ | refine blk_alloc ?_ _)); refine blk_put (cs:=#[.int .i64 a0_0,.int .i64 a0_1,.slice none 0 0,.slice none 0 0]) ?_ 2 _ rfl; (with_reducible repeat (first | refine blk_drewN ?_ _ | refine blk_drew ?_ | refine blk_alloc ?_ _)); refine blk_put (cs:=#[.int .i64 a0_0,.int .i64 0,.slice none 0 0,.slice none 0 0]) ?_ 1 _ rfl; (with_reducible repeat (first | refine blk_drewN ?_ _ | refine blk_drew ?_ | refine blk_alloc ?_ _)); refine blk_put (cs:=#[.int .i64 0,.int .i64 0,.slice none 0 0,.slice none 0 0]) ?_ 0 _ rfl; (with_reducible repeat (first | refine blk_drewN ?_ _ | refine blk_drew ?_ | refine blk_alloc ?_ _)); exact BK715.out) hb); have n6_:=am_ (below_step (bl4_ HB.out GE712.out GE713.out GE714.out GE715.out) hb); clear BK712; clear BK713; clear BK714; clear BK715; clear HB; have HO728:=n0_; have HO731:=n1_; have BK712:=n2_; have BK713:=n3_; have BK714:=n4_; have BK715:=n5_; have HB:=n6_; clear n0_ n1_ n2_ n3_ n4_ n5_ n6_; (try clear hb); (try clear hb2); (try clear hk); (try clear hi); (try clear ho0); (try clear ho1); have hcz39_0:w38.cell? ⟨gb714,0,none⟩ = some (.int .i64 0):=(bc_ BK714.out 0).trans rfl; have hcz39_1:w38.cell? ⟨gb714,1,none⟩ = some (.int .i64 0):=(bc_ BK714.out 1).trans rfl; have hcz39_2:w38.cell? ⟨gb714,2,none⟩ = some (.slice none 0 0):=(bc_ BK714.out 2).trans rfl; have hcz39_3:w38.cell? ⟨gb714,3,none⟩ = some (.slice none 0 0):=(bc_ BK714.out 3).trans rfl; have hfz39_0:=bz_ BK714.out 0; have hfz39_1:=bz_ BK714.out 1; have hfz39_2:=bz_ BK714.out 2; have hfz39_3:=bz_ BK714.out 3; obtain ⟨Ao40,co40,eo40⟩:=Kd.R_slice HO728.out; subst eo40; obtain ⟨Ao41,co41,eo41⟩:=Kd.R_slice HO731.out; subst eo41))
   refine bodyPost_ret (results_cell_row rfl _ _ gb714 36 #[.int .i64 t724,.int .i64 t725,.slice Ao40 t726.length co40,.slice Ao41 t729.length co41] (0,0) _ rfl (by (with_reducible repeat (first | refine blk_drewN ?_ _ | refine blk_drew ?_ | refine blk_alloc ?_ _)); refine blk_put (cs:=#[.int .i64 t724,.int .i64 t725,.slice Ao40 t726.length co40,.slice none 0 0]) ?_ 3 _ rfl; (with_reducible repeat (first | refine blk_drewN ?_ _ | refine blk_drew ?_ | refine blk_alloc ?_ _)); refine blk_put (cs:=#[.int .i64 t724,.int .i64 t725,.slice none 0 0,.slice none 0 0]) ?_ 2 _ rfl; (with_reducible repeat (first | refine blk_drewN ?_ _ | refine blk_drew ?_ | refine blk_alloc ?_ _)); refine blk_put (cs:=#[.int .i64 t724,.int .i64 0,.slice none 0 0,.slice none 0 0]) ?_ 1 _ rfl; (with_reducible repeat (first | refine blk_drewN ?_ _ | refine blk_drew ?_ | refine blk_alloc ?_ _)); refine blk_put (cs:=#[.int .i64 0,.int .i64 0,.slice none 0 0,.slice none 0 0]) ?_ 0 _ rfl; (with_reducible repeat (first | refine blk_drewN ?_ _ | refine blk_drew ?_ | refine blk_alloc ?_ _)); exact BK714.out) Tryd.underlying36 rfl (by kernel_rfl)) rfl ?_
   exact ⟨_,_,er_,by (with_reducible repeat (first | apply Kd.R_alloc | apply Kd.R_drewN | apply Kd.R_drew)); exact Kd.R_mono (Kd.R_far (p:=⟨gb714,3,none⟩) (Kd.R_far (p:=⟨gb714,2,none⟩) (Kd.R_far (p:=⟨gb714,1,none⟩) (Kd.R_far (p:=⟨gb714,0,none⟩) (Kd.R_types HO728.out BK714.out (by decide)) (fun _ hk => hk.2) (.int .i64 t724)) (fun _ hk => hk.2) (.int .i64 t725)) (fun _ hk => hk.2) (.slice Ao40 t726.length co40)) (fun _ hk => hk.2) (.slice Ao41 t729.length co41)) (fun _ hk => hk.1),by (with_reducible repeat (first | apply Kd.R_alloc | apply Kd.R_drewN | apply Kd.R_drew)); exact Kd.R_mono (Kd.R_far (p:=⟨gb714,3,none⟩) (Kd.R_far (p:=⟨gb714,2,none⟩) (Kd.R_far (p:=⟨gb714,1,none⟩) (Kd.R_far (p:=⟨gb714,0,none⟩) (Kd.R_types HO731.out BK714.out (by decide)) (fun _ hk => hk.2) (.int .i64 t724)) (fun _ hk => hk.2) (.int .i64 t725)) (fun _ hk => hk.2) (.slice Ao40 t726.length co40)) (fun _ hk => hk.2) (.slice Ao41 t729.length co41)) (fun _ hk => hk.1),bl4_ HB.out GE712.out GE713.out GE714.out GE715.out⟩
  ·rw [if_neg c23] at H
   have c23b0:(a2 == 1) = false:=beq_eq_false_iff_ne.mpr c23
   have c23b1:(a2 != 1) = true:=bne_iff_ne.mpr c23
   by_cases c42:a2 = 2
   ·rw [if_pos c42] at H
    have c42b0:(a2 == 2) = true:=beq_iff_eq.mpr c42
    have c42b1:(a2 != 2) = false:=bne_eq_false_iff_eq.mpr c42
    clear c42
    replace H:=bi_ H
    obtain ⟨⟨t732,t733,t734,t737⟩,A430,H⟩:=H
    replace H:(some (t732,t733,t734,t737)) = some (r1,r2,r3,r4):=H
    have A43:=am_ A430
    clear A430
    simp only [Option.some.injEq,Prod.mk.injEq] at H
    obtain ⟨rfl,rfl,rfl,rfl⟩:=H
    go_enter Tryd.func116,Tryd.ntmps116
    go_wp2_with (first | ((with_reducible refine gate_dst (N:=3) rfl ?_); refine boxE_ (N:=3) (cs:=#[.int .i64 a0_0,.int .i64 a0_1,.slice A0_2 l0_2.length c0_2,.slice A0_3 l0_3.length c0_3]) (t:=36) ?_; intro gb712 hg w44 hbox hb; have n0_:=am_ (below_step (bl0_ HB.out) hb); have n1_:=am_ (hbox); have n2_:=am_ ((bs0_ hg HB.out:w.heap.size ≤ gb712)); have n3_:=am_ ((bs0_ hg HB.out:w.heap.size ≤ gb712)); clear HB; have HB:=n0_; have BK712:=n1_; have GW712:=n2_; have GE712:=n3_; clear n0_ n1_ n2_ n3_; clear hb hbox hg) | ((with_reducible refine gate_dst (N:=4) rfl ?_); refine boxE_ (N:=4) (cs:=#[.int .i64 a1_0,.int .i64 a1_1]) (t:=84) ?_; intro gb713 hg w45 hbox hb; have n0_:=am_ (bb_ BK712.out hb); have n1_:=am_ (below_step (bl1_ HB.out GE712.out) hb); have n2_:=am_ (hbox); have n3_:=am_ ((bs1_ hg HB.out GE712.out:w.heap.size ≤ gb713)); have n4_:=am_ ((bs1_ hg HB.out GE712.out:w.heap.size ≤ gb713)); have n5_:=am_ ((nl_ hg BK712.out:gb712 ≠ gb713)); have n6_:=am_ ((ng_ hg BK712.out:gb713 ≠ gb712)); clear BK712; clear HB; have BK712:=n0_; have HB:=n1_; have BK713:=n2_; have GW713:=n3_; have GE713:=n4_; have NB712_713:=n5_; have NB713_712:=n6_; clear n0_ n1_ n2_ n3_ n4_ n5_ n6_; clear hb hbox hg) | ((with_reducible refine gate_dst (N:=6) rfl ?_); refine boxE_ (N:=6) (cs:=#[.int .i64 0,.int .i64 0,.slice none 0 0,.slice none 0 0]) (t:=36) ?_; intro gb714 hg w46 hbox hb; have n0_:=am_ (bb_ BK712.out hb); have n1_:=am_ (bb_ BK713.out hb); have n2_:=am_ (below_step (bl2_ HB.out GE712.out GE713.out) hb); have n3_:=am_ (hbox); have n4_:=am_ ((bs2_ hg HB.out GE712.out GE713.out:w.heap.size ≤ gb714)); have n5_:=am_ ((bs2_ hg HB.out GE712.out GE713.out:w.heap.size ≤ gb714)); have n6_:=am_ ((nl_ hg BK712.out:gb712 ≠ gb714)); have n7_:=am_ ((ng_ hg BK712.out:gb714 ≠ gb712)); have n8_:=am_ ((nl_ hg BK713.out:gb713 ≠ gb714)); have n9_:=am_ ((ng_ hg BK713.out:gb714 ≠ gb713)); clear BK712; clear BK713; clear HB; have BK712:=n0_; have BK713:=n1_; have HB:=n2_; have BK714:=n3_; have GW714:=n4_; have GE714:=n5_; have NB712_714:=n6_; have NB714_712:=n7_; have NB713_714:=n8_; have NB714_713:=n9_; clear n0_ n1_ n2_ n3_ n4_ n5_ n6_ n7_ n8_ n9_; clear hb hbox hg; have hnb47:=NB712_713.out; have hnc47:=NB713_712.out; have hnb48:=NB712_714.out; have hnc48:=NB714_712.out; have hcz49_0:w46.cell? ⟨gb712,0,none⟩ = some (.int .i64 a0_0):=(bc_ BK712.out 0).trans rfl; have hcz49_1:w46.cell? ⟨gb712,1,none⟩ = some (.int .i64 a0_1):=(bc_ BK712.out 1).trans rfl; have hcz49_2:w46.cell? ⟨gb712,2,none⟩ = some (.slice A0_2 l0_2.length c0_2):=(bc_ BK712.out 2).trans rfl; have hcz49_3:w46.cell? ⟨gb712,3,none⟩ = some (.slice A0_3 l0_3.length c0_3):=(bc_ BK712.out 3).trans rfl; have hfz49_0:=bz_ BK712.out 0; have hfz49_1:=bz_ BK712.out 1; have hfz49_2:=bz_ BK712.out 2; have hfz49_3:=bz_ BK712.out 3) | ((with_reducible refine gate_dst (N:=7) rfl ?_); refine boxE_ (N:=7) (cs:=#[.int .i64 0,.int .i64 0,.slice none 0 0,.slice none 0 0]) (t:=36) ?_; intro gb715 hg w50 hbox hb; have n0_:=am_ (bb_ BK712.out hb); have n1_:=am_ (bb_ BK713.out hb); have n2_:=am_ (bb_ BK714.out hb); have n3_:=am_ (below_step (bl3_ HB.out GE712.out GE713.out GE714.out) hb); have n4_:=am_ (hbox); have n5_:=am_ ((bs3_ hg HB.out GE712.out GE713.out GE714.out:w.heap.size ≤ gb715)); have n6_:=am_ ((bs3_ hg HB.out GE712.out GE713.out GE714.out:w.heap.size ≤ gb715)); have n7_:=am_ ((nl_ hg BK712.out:gb712 ≠ gb715)); have n8_:=am_ ((ng_ hg BK712.out:gb715 ≠ gb712)); have n9_:=am_ ((nl_ hg BK713.out:gb713 ≠ gb715)); have n10_:=am_ ((ng_ hg BK713.out:gb715 ≠ gb713)); have n11_:=am_ ((nl_ hg BK714.out:gb714 ≠ gb715)); have n12_:=am_ ((ng_ hg BK714.out:gb715 ≠ gb714)); clear BK712; clear BK713; clear BK714; clear HB; have BK712:=n0_; have BK713:=n1_; have BK714:=n2_; have HB:=n3_; have BK715:=n4_; have GW715:=n5_; have GE715:=n6_; have NB712_715:=n7_; have NB715_712:=n8_; have NB713_715:=n9_; have NB715_713:=n10_; have NB714_715:=n11_; have NB715_714:=n12_; clear n0_ n1_ n2_ n3_ n4_ n5_ n6_ n7_ n8_ n9_ n10_ n11_ n12_; clear hb hbox hg; have hnb51:=NB715_712.out; have hnc51:=NB712_715.out; have hnb52:=NB715_713.out; have hnc52:=NB713_715.out; have hnb53:=NB715_714.out; have hnc53:=NB714_715.out; have hcz54_0:w50.cell? ⟨gb715,0,none⟩ = some (.int .i64 0):=(bc_ BK715.out 0).trans rfl; have hcz54_1:w50.cell? ⟨gb715,1,none⟩ = some (.int .i64 0):=(bc_ BK715.out 1).trans rfl; have hcz54_2:w50.cell? ⟨gb715,2,none⟩ = some (.slice none 0 0):=(bc_ BK715.out 2).trans rfl; have hcz54_3:w50.cell? ⟨gb715,3,none⟩ = some (.slice none 0 0):=(bc_ BK715.out 3).trans rfl; have hfz54_0:=bz_ BK715.out 0; have hfz54_1:=bz_ BK715.out 1; have hfz54_2:=bz_ BK715.out 2; have hfz54_3:=bz_ BK715.out 3; have hnb55:=NB713_714.out; have hnc55:=NB714_713.out; have hcz56_0:w50.cell? ⟨gb713,0,none⟩ = some (.int .i64 a1_0):=(bc_ BK713.out 0).trans rfl; have hcz56_1:w50.cell? ⟨gb713,1,none⟩ = some (.int .i64 a1_1):=(bc_ BK713.out 1).trans rfl; have hfz56_0:=bz_ BK713.out 0; have hfz56_1:=bz_ BK713.out 1) | ((with_reducible refine gate_callee (f:=138) rfl ?_); refine goesL_ (some 38) rfl rfl Tryd.func138 (by kernel_rfl) rfl #[.agg #[.int .i64 a0_0,.int .i64 a0_1,.slice none 0 0,.slice none 0 0],.bool true,.int .i64 a1_0,.int .i64 a1_1] rfl ob_ ?_; (refine (spec_fiPut.calls k a0_0 a0_1 _ _ ([]:List Int) _ _ ([]:List Int) true a1_0 a1_1 t732 t733 t734 t737 _ ?side1 ?side2 ?side3 ?side4 A43.out).mono ?_); (case side1 => exact Kd.C_nil _ _); (case side2 => exact Nat.le_refl _); (case side3 => exact Kd.C_nil _ _); (case side4 => exact Nat.le_refl _); rintro e w57 ⟨v735,v738,rfl,ho0,ho1,hb⟩; refine ⟨_,rfl,?_⟩; have n0_:=am_ (Kd.R_lower ho0 (below_size (bl4_ HB.out GE712.out GE713.out GE714.out GE715.out))); have n1_:=am_ (Kd.R_lower ho1 (below_size (bl4_ HB.out GE712.out GE713.out GE714.out GE715.out))); have n2_:=am_ (blk_below (g:=gb712) (o:=.cells #[.int .i64 a0_0,.int .i64 a0_1,.slice A0_2 l0_2.length c0_2,.slice A0_3 l0_3.length c0_3] 36 (0,0)) (bf4_ NB712_715.out NB712_715.out NB712_715.out NB712_715.out BK712.out) hb); have n3_:=am_ (blk_below (g:=gb713) (o:=.cells #[.int .i64 a1_0,.int .i64 a1_1] 84 (0,0)) (bf4_ NB713_715.out NB713_715.out NB713_715.out NB713_715.out BK713.out) hb); have n4_:=am_ (blk_below (g:=gb714) (o:=.cells #[.int .i64 0,.int .i64 0,.slice none 0 0,.slice none 0 0] 36 (0,0)) (bf4_ NB714_715.out NB714_715.out NB714_715.out NB714_715.out BK714.out) hb); have n5_:=am_ (blk_below (g:=gb715) (o:=.cells #[.int .i64 a0_0,.int .i64 a0_1,.slice none 0 0,.slice none 0 0] 36 (0,0)) (by (with_reducible repeat (first | refine blk_drewN ?_ _ | refine blk_drew ?_ | refine blk_alloc ?_ _)); refine blk_put (cs:=#[.int .i64 a0_0,.int .i64 a0_1,.slice none 0 0,.slice none 0 0]) ?_ 3 _ rfl; (with_reducible repeat (first | refine blk_drewN ?_ _ | refine blk_drew ?_ | refine blk_alloc ?_ _)); refine blk_put (cs:=#[.int .i64 a0_0,.int .i64 a0_1,.slice none 0 0,.slice none 0 0]) ?_ 2 _ rfl; (with_reducible repeat (first | refine blk_drewN ?_ _ | refine blk_drew ?_ | refine blk_alloc ?_ _)); refine blk_put (cs:=#[.int .i64 a0_0,.int .i64 0,.slice none 0 0,.slice none 0 0]) ?_ 1 _ rfl; (with_reducible repeat (first | refine blk_drewN ?_ _ | refine blk_drew ?_ | refine blk_alloc ?_ _)); refine blk_put (cs:=#[.int .i64 0,.int .i64 0,.slice none 0 0,.slice none 0 0]) ?_ 0 _ rfl; (with_reducible repeat (first | refine blk_drewN ?_ _ | refine blk_drew ?_ | refine blk_alloc ?_ _)); exact BK715.out) hb); have n6_:=am_ (below_step (bl4_ HB.out GE712.out GE713.out GE714.out GE715.out) hb); clear BK712; clear BK713; clear BK714; clear BK715; clear HB; have HO736:=n0_; have HO739:=n1_; have BK712:=n2_; have BK713:=n3_; have BK714:=n4_; have BK715:=n5_; have HB:=n6_; clear n0_ n1_ n2_ n3_ n4_ n5_ n6_; (try clear hb); (try clear hb2); (try clear hk); (try clear hi); (try clear ho0); (try clear ho1); have hcz58_0:w57.cell? ⟨gb714,0,none⟩ = some (.int .i64 0):=(bc_ BK714.out 0).trans rfl; have hcz58_1:w57.cell? ⟨gb714,1,none⟩ = some (.int .i64 0):=(bc_ BK714.out 1).trans rfl; have hcz58_2:w57.cell? ⟨gb714,2,none⟩ = some (.slice none 0 0):=(bc_ BK714.out 2).trans rfl; have hcz58_3:w57.cell? ⟨gb714,3,none⟩ = some (.slice none 0 0):=(bc_ BK714.out 3).trans rfl; have hfz58_0:=bz_ BK714.out 0; have hfz58_1:=bz_ BK714.out 1; have hfz58_2:=bz_ BK714.out 2; have hfz58_3:=bz_ BK714.out 3; obtain ⟨Ao59,co59,eo59⟩:=Kd.R_slice HO736.out; subst eo59; obtain ⟨Ao60,co60,eo60⟩:=Kd.R_slice HO739.out; subst eo60))
    refine bodyPost_ret (results_cell_row rfl _ _ gb714 36 #[.int .i64 t732,.int .i64 t733,.slice Ao59 t734.length co59,.slice Ao60 t737.length co60] (0,0) _ rfl (by (with_reducible repeat (first | refine blk_drewN ?_ _ | refine blk_drew ?_ | refine blk_alloc ?_ _)); refine blk_put (cs:=#[.int .i64 t732,.int .i64 t733,.slice Ao59 t734.length co59,.slice none 0 0]) ?_ 3 _ rfl; (with_reducible repeat (first | refine blk_drewN ?_ _ | refine blk_drew ?_ | refine blk_alloc ?_ _)); refine blk_put (cs:=#[.int .i64 t732,.int .i64 t733,.slice none 0 0,.slice none 0 0]) ?_ 2 _ rfl; (with_reducible repeat (first | refine blk_drewN ?_ _ | refine blk_drew ?_ | refine blk_alloc ?_ _)); refine blk_put (cs:=#[.int .i64 t732,.int .i64 0,.slice none 0 0,.slice none 0 0]) ?_ 1 _ rfl; (with_reducible repeat (first | refine blk_drewN ?_ _ | refine blk_drew ?_ | refine blk_alloc ?_ _)); refine blk_put (cs:=#[.int .i64 0,.int .i64 0,.slice none 0 0,.slice none 0 0]) ?_ 0 _ rfl; (with_reducible repeat (first | refine blk_drewN ?_ _ | refine blk_drew ?_ | refine blk_alloc ?_ _)); exact BK714.out) Tryd.underlying36 rfl (by kernel_rfl)) rfl ?_
    exact ⟨_,_,er_,by (with_reducible repeat (first | apply Kd.R_alloc | apply Kd.R_drewN | apply Kd.R_drew)); exact Kd.R_mono (Kd.R_far (p:=⟨gb714,3,none⟩) (Kd.R_far (p:=⟨gb714,2,none⟩) (Kd.R_far (p:=⟨gb714,1,none⟩) (Kd.R_far (p:=⟨gb714,0,none⟩) (Kd.R_types HO736.out BK714.out (by decide)) (fun _ hk => hk.2) (.int .i64 t732)) (fun _ hk => hk.2) (.int .i64 t733)) (fun _ hk => hk.2) (.slice Ao59 t734.length co59)) (fun _ hk => hk.2) (.slice Ao60 t737.length co60)) (fun _ hk => hk.1),by (with_reducible repeat (first | apply Kd.R_alloc | apply Kd.R_drewN | apply Kd.R_drew)); exact Kd.R_mono (Kd.R_far (p:=⟨gb714,3,none⟩) (Kd.R_far (p:=⟨gb714,2,none⟩) (Kd.R_far (p:=⟨gb714,1,none⟩) (Kd.R_far (p:=⟨gb714,0,none⟩) (Kd.R_types HO739.out BK714.out (by decide)) (fun _ hk => hk.2) (.int .i64 t732)) (fun _ hk => hk.2) (.int .i64 t733)) (fun _ hk => hk.2) (.slice Ao59 t734.length co59)) (fun _ hk => hk.2) (.slice Ao60 t737.length co60)) (fun _ hk => hk.1),bl4_ HB.out GE712.out GE713.out GE714.out GE715.out⟩
   ·rw [if_neg c42] at H
    have c42b0:(a2 == 2) = false:=beq_eq_false_iff_ne.mpr c42
    have c42b1:(a2 != 2) = true:=bne_iff_ne.mpr c42
    replace H:=bi_ H
    obtain ⟨⟨t740,t741,t742,t745⟩,A610,H⟩:=H
    replace H:(some (t740,t741,t742,t745)) = some (r1,r2,r3,r4):=H
    have A61:=am_ A610
    clear A610
    simp only [Option.some.injEq,Prod.mk.injEq] at H
    obtain ⟨rfl,rfl,rfl,rfl⟩:=H
    go_enter Tryd.func116,Tryd.ntmps116
    go_wp2_with (first | ((with_reducible refine gate_dst (N:=3) rfl ?_); refine boxE_ (N:=3) (cs:=#[.int .i64 a0_0,.int .i64 a0_1,.slice A0_2 l0_2.length c0_2,.slice A0_3 l0_3.length c0_3]) (t:=36) ?_; intro gb712 hg w62 hbox hb; have n0_:=am_ (below_step (bl0_ HB.out) hb); have n1_:=am_ (hbox); have n2_:=am_ ((bs0_ hg HB.out:w.heap.size ≤ gb712)); have n3_:=am_ ((bs0_ hg HB.out:w.heap.size ≤ gb712)); clear HB; have HB:=n0_; have BK712:=n1_; have GW712:=n2_; have GE712:=n3_; clear n0_ n1_ n2_ n3_; clear hb hbox hg) | ((with_reducible refine gate_dst (N:=4) rfl ?_); refine boxE_ (N:=4) (cs:=#[.int .i64 a1_0,.int .i64 a1_1]) (t:=84) ?_; intro gb713 hg w63 hbox hb; have n0_:=am_ (bb_ BK712.out hb); have n1_:=am_ (below_step (bl1_ HB.out GE712.out) hb); have n2_:=am_ (hbox); have n3_:=am_ ((bs1_ hg HB.out GE712.out:w.heap.size ≤ gb713)); have n4_:=am_ ((bs1_ hg HB.out GE712.out:w.heap.size ≤ gb713)); have n5_:=am_ ((nl_ hg BK712.out:gb712 ≠ gb713)); have n6_:=am_ ((ng_ hg BK712.out:gb713 ≠ gb712)); clear BK712; clear HB; have BK712:=n0_; have HB:=n1_; have BK713:=n2_; have GW713:=n3_; have GE713:=n4_; have NB712_713:=n5_; have NB713_712:=n6_; clear n0_ n1_ n2_ n3_ n4_ n5_ n6_; clear hb hbox hg) | ((with_reducible refine gate_dst (N:=6) rfl ?_); refine boxE_ (N:=6) (cs:=#[.int .i64 0,.int .i64 0,.slice none 0 0,.slice none 0 0]) (t:=36) ?_; intro gb714 hg w64 hbox hb; have n0_:=am_ (bb_ BK712.out hb); have n1_:=am_ (bb_ BK713.out hb); have n2_:=am_ (below_step (bl2_ HB.out GE712.out GE713.out) hb); have n3_:=am_ (hbox); have n4_:=am_ ((bs2_ hg HB.out GE712.out GE713.out:w.heap.size ≤ gb714)); have n5_:=am_ ((bs2_ hg HB.out GE712.out GE713.out:w.heap.size ≤ gb714)); have n6_:=am_ ((nl_ hg BK712.out:gb712 ≠ gb714)); have n7_:=am_ ((ng_ hg BK712.out:gb714 ≠ gb712)); have n8_:=am_ ((nl_ hg BK713.out:gb713 ≠ gb714)); have n9_:=am_ ((ng_ hg BK713.out:gb714 ≠ gb713)); clear BK712; clear BK713; clear HB; have BK712:=n0_; have BK713:=n1_; have HB:=n2_; have BK714:=n3_; have GW714:=n4_; have GE714:=n5_; have NB712_714:=n6_; have NB714_712:=n7_; have NB713_714:=n8_; have NB714_713:=n9_; clear n0_ n1_ n2_ n3_ n4_ n5_ n6_ n7_ n8_ n9_; clear hb hbox hg; have hnb65:=NB712_713.out; have hnc65:=NB713_712.out; have hnb66:=NB712_714.out; have hnc66:=NB714_712.out; have hcz67_0:w64.cell? ⟨gb712,0,none⟩ = some (.int .i64 a0_0):=(bc_ BK712.out 0).trans rfl; have hcz67_1:w64.cell? ⟨gb712,1,none⟩ = some (.int .i64 a0_1):=(bc_ BK712.out 1).trans rfl; have hcz67_2:w64.cell? ⟨gb712,2,none⟩ = some (.slice A0_2 l0_2.length c0_2):=(bc_ BK712.out 2).trans rfl; have hcz67_3:w64.cell? ⟨gb712,3,none⟩ = some (.slice A0_3 l0_3.length c0_3):=(bc_ BK712.out 3).trans rfl; have hfz67_0:=bz_ BK712.out 0; have hfz67_1:=bz_ BK712.out 1; have hfz67_2:=bz_ BK712.out 2; have hfz67_3:=bz_ BK712.out 3) | ((with_reducible refine gate_dst (N:=7) rfl ?_); refine boxE_ (N:=7) (cs:=#[.int .i64 0,.int .i64 0,.slice none 0 0,.slice none 0 0]) (t:=36) ?_; intro gb715 hg w68 hbox hb; have n0_:=am_ (bb_ BK712.out hb); have n1_:=am_ (bb_ BK713.out hb); have n2_:=am_ (bb_ BK714.out hb); have n3_:=am_ (below_step (bl3_ HB.out GE712.out GE713.out GE714.out) hb); have n4_:=am_ (hbox); have n5_:=am_ ((bs3_ hg HB.out GE712.out GE713.out GE714.out:w.heap.size ≤ gb715)); have n6_:=am_ ((bs3_ hg HB.out GE712.out GE713.out GE714.out:w.heap.size ≤ gb715)); have n7_:=am_ ((nl_ hg BK712.out:gb712 ≠ gb715)); have n8_:=am_ ((ng_ hg BK712.out:gb715 ≠ gb712)); have n9_:=am_ ((nl_ hg BK713.out:gb713 ≠ gb715)); have n10_:=am_ ((ng_ hg BK713.out:gb715 ≠ gb713)); have n11_:=am_ ((nl_ hg BK714.out:gb714 ≠ gb715)); have n12_:=am_ ((ng_ hg BK714.out:gb715 ≠ gb714)); clear BK712; clear BK713; clear BK714; clear HB; have BK712:=n0_; have BK713:=n1_; have BK714:=n2_; have HB:=n3_; have BK715:=n4_; have GW715:=n5_; have GE715:=n6_; have NB712_715:=n7_; have NB715_712:=n8_; have NB713_715:=n9_; have NB715_713:=n10_; have NB714_715:=n11_; have NB715_714:=n12_; clear n0_ n1_ n2_ n3_ n4_ n5_ n6_ n7_ n8_ n9_ n10_ n11_ n12_; clear hb hbox hg; have hnb69:=NB715_712.out; have hnc69:=NB712_715.out; have hnb70:=NB715_713.out; have hnc70:=NB713_715.out; have hnb71:=NB715_714.out; have hnc71:=NB714_715.out; have hcz72_0:w68.cell? ⟨gb715,0,none⟩ = some (.int .i64 0):=(bc_ BK715.out 0).trans rfl; have hcz72_1:w68.cell? ⟨gb715,1,none⟩ = some (.int .i64 0):=(bc_ BK715.out 1).trans rfl; have hcz72_2:w68.cell? ⟨gb715,2,none⟩ = some (.slice none 0 0):=(bc_ BK715.out 2).trans rfl; have hcz72_3:w68.cell? ⟨gb715,3,none⟩ = some (.slice none 0 0):=(bc_ BK715.out 3).trans rfl; have hfz72_0:=bz_ BK715.out 0; have hfz72_1:=bz_ BK715.out 1; have hfz72_2:=bz_ BK715.out 2; have hfz72_3:=bz_ BK715.out 3; have hnb73:=NB713_714.out; have hnc73:=NB714_713.out; have hcz74_0:w68.cell? ⟨gb713,0,none⟩ = some (.int .i64 a1_0):=(bc_ BK713.out 0).trans rfl; have hcz74_1:w68.cell? ⟨gb713,1,none⟩ = some (.int .i64 a1_1):=(bc_ BK713.out 1).trans rfl; have hfz74_0:=bz_ BK713.out 0; have hfz74_1:=bz_ BK713.out 1) | ((with_reducible refine gate_callee (f:=138) rfl ?_); refine goesL_ (some 45) rfl rfl Tryd.func138 (by kernel_rfl) rfl #[.agg #[.int .i64 a0_0,.int .i64 a0_1,.slice none 0 0,.slice none 0 0],.bool false,.int .i64 (wrap64 (a1_0 - 1)),.int .i64 a1_1] rfl ob_ ?_; (refine (spec_fiPut.calls k a0_0 a0_1 _ _ ([]:List Int) _ _ ([]:List Int) false (wrap64 (a1_0 - 1)) a1_1 t740 t741 t742 t745 _ ?side1 ?side2 ?side3 ?side4 A61.out).mono ?_); (case side1 => exact Kd.C_nil _ _); (case side2 => exact Nat.le_refl _); (case side3 => exact Kd.C_nil _ _); (case side4 => exact Nat.le_refl _); rintro e w75 ⟨v743,v746,rfl,ho0,ho1,hb⟩; refine ⟨_,rfl,?_⟩; have n0_:=am_ (Kd.R_lower ho0 (below_size (bl4_ HB.out GE712.out GE713.out GE714.out GE715.out))); have n1_:=am_ (Kd.R_lower ho1 (below_size (bl4_ HB.out GE712.out GE713.out GE714.out GE715.out))); have n2_:=am_ (blk_below (g:=gb712) (o:=.cells #[.int .i64 a0_0,.int .i64 a0_1,.slice A0_2 l0_2.length c0_2,.slice A0_3 l0_3.length c0_3] 36 (0,0)) (bf4_ NB712_715.out NB712_715.out NB712_715.out NB712_715.out BK712.out) hb); have n3_:=am_ (blk_below (g:=gb713) (o:=.cells #[.int .i64 a1_0,.int .i64 a1_1] 84 (0,0)) (bf4_ NB713_715.out NB713_715.out NB713_715.out NB713_715.out BK713.out) hb); have n4_:=am_ (blk_below (g:=gb714) (o:=.cells #[.int .i64 0,.int .i64 0,.slice none 0 0,.slice none 0 0] 36 (0,0)) (bf4_ NB714_715.out NB714_715.out NB714_715.out NB714_715.out BK714.out) hb); have n5_:=am_ (blk_below (g:=gb715) (o:=.cells #[.int .i64 a0_0,.int .i64 a0_1,.slice none 0 0,.slice none 0 0] 36 (0,0)) (by (with_reducible repeat (first | refine blk_drewN ?_ _ | refine blk_drew ?_ | refine blk_alloc ?_ _)); refine blk_put (cs:=#[.int .i64 a0_0,.int .i64 a0_1,.slice none 0 0,.slice none 0 0]) ?_ 3 _ rfl; (with_reducible repeat (first | refine blk_drewN ?_ _ | refine blk_drew ?_ | refine blk_alloc ?_ _)); refine blk_put (cs:=#[.int .i64 a0_0,.int .i64 a0_1,.slice none 0 0,.slice none 0 0]) ?_ 2 _ rfl; (with_reducible repeat (first | refine blk_drewN ?_ _ | refine blk_drew ?_ | refine blk_alloc ?_ _)); refine blk_put (cs:=#[.int .i64 a0_0,.int .i64 0,.slice none 0 0,.slice none 0 0]) ?_ 1 _ rfl; (with_reducible repeat (first | refine blk_drewN ?_ _ | refine blk_drew ?_ | refine blk_alloc ?_ _)); refine blk_put (cs:=#[.int .i64 0,.int .i64 0,.slice none 0 0,.slice none 0 0]) ?_ 0 _ rfl; (with_reducible repeat (first | refine blk_drewN ?_ _ | refine blk_drew ?_ | refine blk_alloc ?_ _)); exact BK715.out) hb); have n6_:=am_ (below_step (bl4_ HB.out GE712.out GE713.out GE714.out GE715.out) hb); clear BK712; clear BK713; clear BK714; clear BK715; clear HB; have HO744:=n0_; have HO747:=n1_; have BK712:=n2_; have BK713:=n3_; have BK714:=n4_; have BK715:=n5_; have HB:=n6_; clear n0_ n1_ n2_ n3_ n4_ n5_ n6_; (try clear hb); (try clear hb2); (try clear hk); (try clear hi); (try clear ho0); (try clear ho1); have hcz76_0:w75.cell? ⟨gb714,0,none⟩ = some (.int .i64 0):=(bc_ BK714.out 0).trans rfl; have hcz76_1:w75.cell? ⟨gb714,1,none⟩ = some (.int .i64 0):=(bc_ BK714.out 1).trans rfl; have hcz76_2:w75.cell? ⟨gb714,2,none⟩ = some (.slice none 0 0):=(bc_ BK714.out 2).trans rfl; have hcz76_3:w75.cell? ⟨gb714,3,none⟩ = some (.slice none 0 0):=(bc_ BK714.out 3).trans rfl; have hfz76_0:=bz_ BK714.out 0; have hfz76_1:=bz_ BK714.out 1; have hfz76_2:=bz_ BK714.out 2; have hfz76_3:=bz_ BK714.out 3; obtain ⟨Ao77,co77,eo77⟩:=Kd.R_slice HO744.out; subst eo77; obtain ⟨Ao78,co78,eo78⟩:=Kd.R_slice HO747.out; subst eo78))
    refine bodyPost_ret (results_cell_row rfl _ _ gb714 36 #[.int .i64 t740,.int .i64 t741,.slice Ao77 t742.length co77,.slice Ao78 t745.length co78] (0,0) _ rfl (by (with_reducible repeat (first | refine blk_drewN ?_ _ | refine blk_drew ?_ | refine blk_alloc ?_ _)); refine blk_put (cs:=#[.int .i64 t740,.int .i64 t741,.slice Ao77 t742.length co77,.slice none 0 0]) ?_ 3 _ rfl; (with_reducible repeat (first | refine blk_drewN ?_ _ | refine blk_drew ?_ | refine blk_alloc ?_ _)); refine blk_put (cs:=#[.int .i64 t740,.int .i64 t741,.slice none 0 0,.slice none 0 0]) ?_ 2 _ rfl; (with_reducible repeat (first | refine blk_drewN ?_ _ | refine blk_drew ?_ | refine blk_alloc ?_ _)); refine blk_put (cs:=#[.int .i64 t740,.int .i64 0,.slice none 0 0,.slice none 0 0]) ?_ 1 _ rfl; (with_reducible repeat (first | refine blk_drewN ?_ _ | refine blk_drew ?_ | refine blk_alloc ?_ _)); refine blk_put (cs:=#[.int .i64 0,.int .i64 0,.slice none 0 0,.slice none 0 0]) ?_ 0 _ rfl; (with_reducible repeat (first | refine blk_drewN ?_ _ | refine blk_drew ?_ | refine blk_alloc ?_ _)); exact BK714.out) Tryd.underlying36 rfl (by kernel_rfl)) rfl ?_
    exact ⟨_,_,er_,by (with_reducible repeat (first | apply Kd.R_alloc | apply Kd.R_drewN | apply Kd.R_drew)); exact Kd.R_mono (Kd.R_far (p:=⟨gb714,3,none⟩) (Kd.R_far (p:=⟨gb714,2,none⟩) (Kd.R_far (p:=⟨gb714,1,none⟩) (Kd.R_far (p:=⟨gb714,0,none⟩) (Kd.R_types HO744.out BK714.out (by decide)) (fun _ hk => hk.2) (.int .i64 t740)) (fun _ hk => hk.2) (.int .i64 t741)) (fun _ hk => hk.2) (.slice Ao77 t742.length co77)) (fun _ hk => hk.2) (.slice Ao78 t745.length co78)) (fun _ hk => hk.1),by (with_reducible repeat (first | apply Kd.R_alloc | apply Kd.R_drewN | apply Kd.R_drew)); exact Kd.R_mono (Kd.R_far (p:=⟨gb714,3,none⟩) (Kd.R_far (p:=⟨gb714,2,none⟩) (Kd.R_far (p:=⟨gb714,1,none⟩) (Kd.R_far (p:=⟨gb714,0,none⟩) (Kd.R_types HO747.out BK714.out (by decide)) (fun _ hk => hk.2) (.int .i64 t740)) (fun _ hk => hk.2) (.int .i64 t741)) (fun _ hk => hk.2) (.slice Ao77 t742.length co77)) (fun _ hk => hk.2) (.slice Ao78 t745.length co78)) (fun _ hk => hk.1),bl4_ HB.out GE712.out GE713.out GE714.out GE715.out⟩


mutual
def spec_liDraw.l0:Nat → ByteArray → Int → Int → Int → Int → Int → List Int → List Int → Int → Int → List Int → List Int → Option (Int × Int × List Int × List Int × Bool)
 | 0,_,_,_,_,_,_,_,_,_,_,_,_ => none
 | k + 1,x3,x12,x749000,x749001,x759000,x759001,x759002,x759003,x760000,x760001,x760002,x760003 => if x12 < (x3.size:Int) then (spec_liDraw.l1 k x3 x12 (-1) 0 x749000 x749001 x759000 x759001 x759002 x759003 x760000 x760001 x760002 x760003) else (some (x760000,x760001,x760002,x760003,true))
def spec_liDraw.l1:Nat → ByteArray → Int → Int → Int → Int → Int → Int → Int → List Int → List Int → Int → Int → List Int → List Int → Option (Int × Int × List Int × List Int × Bool)
 | 0,_,_,_,_,_,_,_,_,_,_,_,_,_,_ => none
 | k + 1,x3,x12,x13,x14,x749000,x749001,x759000,x759001,x759002,x759003,x760000,x760001,x760002,x760003 => if x14 < 4 then (if 0 ≤ x12 then (if x12 < (x3.size:Int) then ((spec_liDirs.f).bind fun t760 => (if 0 ≤ x14 then (if x14 < (t760.size:Int) then (if (bt x3 x12) = (bt t760 x14) then (spec_liDraw.l1 k x3 x12 x14 (wrap64 (x14 + 1)) x749000 x749001 x759000 x759001 x759002 x759003 x760000 x760001 x760002 x760003) else (spec_liDraw.l1 k x3 x12 x13 (wrap64 (x14 + 1)) x749000 x749001 x759000 x759001 x759002 x759003 x760000 x760001 x760002 x760003)) else (none)) else (none))) else (none)) else (none)) else (if x13 < 0 then (some (0,0,([]:List Int),([]:List Int),false)) else ((spec_liNext.f k x759000 x759001 x759002 x759003 x749000 x749001 x13).bind fun bt761 => (if bt761.2.2 = true then ((spec_liNext.f k x760000 x760001 x760002 x760003 x749000 x749001 x13).bind fun bt765 => (if bt765.2.2 = true then (some (0,0,([]:List Int),([]:List Int),false)) else ((spec_fiMissing.f k x760000 x760001 x760002 x760003).bind fun bt769 => ((spec_liEdge.f k x759000 x759001 x759002 x759003 x749000 x749001 x13).bind fun bt777 => ((spec_fiLess.f k bt769.1 bt769.2.1 bt769.2.2.1 bt769.2.2.2 bt777.1 bt777.2.1 bt777.2.2.1 bt777.2.2.2).bind fun bt785 => ((spec_fiMissing.f k bt785.1 bt785.2.1 bt785.2.2.1 bt785.2.2.2).bind fun bt793 => (spec_liDraw.l0 k x3 (wrap64 (x12 + 1)) bt761.1 bt761.2.1 x759000 x759001 x759002 x759003 bt793.1 bt793.2.1 bt793.2.2.1 bt793.2.2.2))))))) else (some (0,0,([]:List Int),([]:List Int),false)))))
end
def spec_liDraw.f (k:Nat) (a0:Int) (a1:Int) (a2_0:Int) (a2_1:Int) (a3:ByteArray):Option (Int × Int × List Int × List Int × Bool):=(spec_fiFull.f k a0 a1).bind fun bt750 => (spec_liDraw.l0 k a3 0 a2_0 a2_1 bt750.1 bt750.2.1 bt750.2.2.1 bt750.2.2.2 a0 a1 ([]:List Int) ([]:List Int))
theorem spec_liDraw.mono_l:∀ k,(∀ y0 y1 y2 y3 y4 y5 y6 y7 y8 y9 y10 y11,LeO (spec_liDraw.l0 k y0 y1 y2 y3 y4 y5 y6 y7 y8 y9 y10 y11) (spec_liDraw.l0 (k + 1) y0 y1 y2 y3 y4 y5 y6 y7 y8 y9 y10 y11)) ∧ (∀ y0 y1 y2 y3 y4 y5 y6 y7 y8 y9 y10 y11 y12 y13,LeO (spec_liDraw.l1 k y0 y1 y2 y3 y4 y5 y6 y7 y8 y9 y10 y11 y12 y13) (spec_liDraw.l1 (k + 1) y0 y1 y2 y3 y4 y5 y6 y7 y8 y9 y10 y11 y12 y13))
 | 0 => ⟨fun _ _ _ _ _ _ _ _ _ _ _ _ r h => by simp [spec_liDraw.l0] at h,fun _ _ _ _ _ _ _ _ _ _ _ _ _ _ r h => by simp [spec_liDraw.l1] at h⟩
 | k + 1 => by
  obtain ⟨ih0,ih1⟩:=spec_liDraw.mono_l k
  refine ⟨?_,?_⟩
  ·intro y0 y1 y2 y3 y4 y5 y6 y7 y8 y9 y10 y11
   unfold spec_liDraw.l0
   repeat' first | (with_reducible first | exact ih0 _ _ _ _ _ _ _ _ _ _ _ _ | exact ih1 _ _ _ _ _ _ _ _ _ _ _ _ _ _ | exact spec_fiFull.mono _ _ _ | exact spec_fiLess.mono _ _ _ _ _ _ _ _ _ | exact spec_fiMissing.mono _ _ _ _ _ | exact spec_liEdge.mono _ _ _ _ _ _ _ _ | exact spec_liNext.mono _ _ _ _ _ _ _ _ | exact LeO.refl _ | exact LeO.none _ | refine LeO.ite ?_ ?_ | refine LeO.bind ?_ (fun _ => ?_)) | exact ih0 _ _ _ _ _ _ _ _ _ _ _ _ | exact ih1 _ _ _ _ _ _ _ _ _ _ _ _ _ _ | exact spec_fiFull.mono _ _ _ | exact spec_fiLess.mono _ _ _ _ _ _ _ _ _ | exact spec_fiMissing.mono _ _ _ _ _ | exact spec_liEdge.mono _ _ _ _ _ _ _ _ | exact spec_liNext.mono _ _ _ _ _ _ _ _
  ·intro y0 y1 y2 y3 y4 y5 y6 y7 y8 y9 y10 y11 y12 y13
   unfold spec_liDraw.l1
   repeat' first | (with_reducible first | exact ih0 _ _ _ _ _ _ _ _ _ _ _ _ | exact ih1 _ _ _ _ _ _ _ _ _ _ _ _ _ _ | exact spec_fiFull.mono _ _ _ | exact spec_fiLess.mono _ _ _ _ _ _ _ _ _ | exact spec_fiMissing.mono _ _ _ _ _ | exact spec_liEdge.mono _ _ _ _ _ _ _ _ | exact spec_liNext.mono _ _ _ _ _ _ _ _ | exact LeO.refl _ | exact LeO.none _ | refine LeO.ite ?_ ?_ | refine LeO.bind ?_ (fun _ => ?_)) | exact ih0 _ _ _ _ _ _ _ _ _ _ _ _ | exact ih1 _ _ _ _ _ _ _ _ _ _ _ _ _ _ | exact spec_fiFull.mono _ _ _ | exact spec_fiLess.mono _ _ _ _ _ _ _ _ _ | exact spec_fiMissing.mono _ _ _ _ _ | exact spec_liEdge.mono _ _ _ _ _ _ _ _ | exact spec_liNext.mono _ _ _ _ _ _ _ _
theorem spec_liDraw.mono:∀ a0 a1 a2 a3 a4 k,LeO (spec_liDraw.f k a0 a1 a2 a3 a4) (spec_liDraw.f (k + 1) a0 a1 a2 a3 a4):=by
 intro a0 a1 a2 a3 a4 k
 obtain ⟨ih0,ih1⟩:=spec_liDraw.mono_l k
 unfold spec_liDraw.f
 repeat' first | (with_reducible first | exact ih0 _ _ _ _ _ _ _ _ _ _ _ _ | exact ih1 _ _ _ _ _ _ _ _ _ _ _ _ _ _ | exact spec_fiFull.mono _ _ _ | exact spec_fiLess.mono _ _ _ _ _ _ _ _ _ | exact spec_fiMissing.mono _ _ _ _ _ | exact spec_liEdge.mono _ _ _ _ _ _ _ _ | exact spec_liNext.mono _ _ _ _ _ _ _ _ | exact LeO.refl _ | exact LeO.none _ | refine LeO.ite ?_ ?_ | refine LeO.bind ?_ (fun _ => ?_)) | exact ih0 _ _ _ _ _ _ _ _ _ _ _ _ | exact ih1 _ _ _ _ _ _ _ _ _ _ _ _ _ _ | exact spec_fiFull.mono _ _ _ | exact spec_fiLess.mono _ _ _ _ _ _ _ _ _ | exact spec_fiMissing.mono _ _ _ _ _ | exact spec_liEdge.mono _ _ _ _ _ _ _ _ | exact spec_liNext.mono _ _ _ _ _ _ _ _
def spec_liDraw.T20:Bool × List (List Nat × List Nat):=(true,[([],[]),([0],[0]),([],[]),([],[]),([],[]),([2,3,4,1],[2,3,4]),([1,5,5],[1,5]),([6,6],[6]),([7,7,0,1,2,3,4,5,6,7],[7])])
def spec_liDraw.B20:List Nat:=[0,1,0,0,0,31,63,127,255]
theorem spec_liDraw.tab20:rtab .any (opsOf Tryd.f64 20) = spec_liDraw.T20:=by kernel_rfl
theorem spec_liDraw.bits20:waitsOk spec_liDraw.T20.2 spec_liDraw.B20 = true:=by kernel_rfl
set_option maxHeartbeats 8000000 in
set_option maxRecDepth 100000 in
theorem spec_liDraw.calls (k:Nat) (a0:Int) (a1:Int) (a2_0:Int) (a2_1:Int) (a3:ByteArray) (r1:Int) (r2:Int) (r3:List Int) (r4:List Int) (r5:Bool) (w:World) (h:spec_liDraw.f k a0 a1 a2_0 a2_1 a3 = some (r1,r2,r3,r4,r5)) :
  Calls Tryd.prog 64 #[.int .i64 a0,.int .i64 a1,.agg #[.int .i64 a2_0,.int .i64 a2_1],.string a3] w fun e w' => ∃ v2_ v3_:Value,e = .returned (.tuple #[.agg #[.int .i64 r1,.int .i64 r2,v2_,v3_],.bool r5]) ∧ Kd.R (Kd.int .i64) 3 w' w.heap.size (fun k_ => some k_ ≠ (v3_:Value).ownBlock) v2_ r3 ∧ Kd.R (Kd.int .i64) 3 w' w.heap.size (fun k_ => some k_ ≠ (v2_:Value).ownBlock) v3_ r4 ∧ Below w.heap.size w w':=by
 have hu84:=Tryd.underlying84
 have hu36:=Tryd.underlying36
 have HB:=am_ (Below.refl w.heap.size w)
 have H:((spec_fiFull.f k a0 a1).bind fun bt750 => (spec_liDraw.l0 k a3 0 a2_0 a2_1 bt750.1 bt750.2.1 bt750.2.2.1 bt750.2.2.2 a0 a1 ([]:List Int) ([]:List Int))) = some (r1,r2,r3,r4,r5):=h
 clear h
 replace H:=bi_ H
 obtain ⟨⟨t750,t751,t752,t755⟩,A50,H⟩:=H
 replace H:(spec_liDraw.l0 k a3 0 a2_0 a2_1 t750 t751 t752 t755 a0 a1 ([]:List Int) ([]:List Int)) = some (r1,r2,r3,r4,r5):=H
 have A5:=am_ A50
 clear A50
 have H':=am_ H
 clear H
 go_enter Tryd.func64,Tryd.ntmps64
 go_wp2_with (first | ((with_reducible refine gate_dst (N:=6) rfl ?_); refine boxE_ (N:=6) (cs:=#[.int .i64 a2_0,.int .i64 a2_1]) (t:=84) ?_; intro gb748 hg w6 hbox hb; have n0_:=am_ (below_step (bl0_ HB.out) hb); have n1_:=am_ (hbox); have n2_:=am_ ((bs0_ hg HB.out:w.heap.size ≤ gb748)); have n3_:=am_ ((bs0_ hg HB.out:w.heap.size ≤ gb748)); clear HB; have HB:=n0_; have BK748:=n1_; have GW748:=n2_; have GE748:=n3_; clear n0_ n1_ n2_ n3_; clear hb hbox hg) | ((with_reducible refine gate_dst (N:=8) rfl ?_); refine boxE_ (N:=8) (cs:=#[.int .i64 0,.int .i64 0,.slice none 0 0,.slice none 0 0]) (t:=36) ?_; intro gb749 hg w7 hbox hb; have n0_:=am_ (bb_ BK748.out hb); have n1_:=am_ (below_step (bl1_ HB.out GE748.out) hb); have n2_:=am_ (hbox); have n3_:=am_ ((bs1_ hg HB.out GE748.out:w.heap.size ≤ gb749)); have n4_:=am_ ((bs1_ hg HB.out GE748.out:w.heap.size ≤ gb749)); have n5_:=am_ ((nl_ hg BK748.out:gb748 ≠ gb749)); have n6_:=am_ ((ng_ hg BK748.out:gb749 ≠ gb748)); clear BK748; clear HB; have BK748:=n0_; have HB:=n1_; have BK749:=n2_; have GW749:=n3_; have GE749:=n4_; have NB748_749:=n5_; have NB749_748:=n6_; clear n0_ n1_ n2_ n3_ n4_ n5_ n6_; clear hb hbox hg) | ((with_reducible refine gate_callee (f:=111) rfl ?_); refine goesL_ (some 21) rfl rfl Tryd.func111 (by kernel_rfl) rfl #[.int .i64 a0,.int .i64 a1] rfl ob_ ?_; (with_reducible refine (spec_fiFull.calls k a0 a1 t750 t751 t752 t755 _ A5.out).mono ?_); rintro e w8 ⟨v753,v756,rfl,ho0,ho1,hb⟩; refine ⟨_,rfl,?_⟩; have n0_:=am_ (Kd.R_lower ho0 (below_size (bl2_ HB.out GE748.out GE749.out))); have n1_:=am_ (Kd.R_lower ho1 (below_size (bl2_ HB.out GE748.out GE749.out))); have n2_:=am_ (bb_ BK748.out hb); have n3_:=am_ (bb_ BK749.out hb); have n4_:=am_ (below_step (bl2_ HB.out GE748.out GE749.out) hb); clear BK748; clear BK749; clear HB; have HO754:=n0_; have HO757:=n1_; have BK748:=n2_; have BK749:=n3_; have HB:=n4_; clear n0_ n1_ n2_ n3_ n4_; (try clear hb); (try clear hb2); (try clear hk); (try clear hi); (try clear ho0); (try clear ho1)) | ((with_reducible refine gate_dst (N:=10) rfl ?_); refine boxE_ (N:=10) (cs:=#[.int .i64 0,.int .i64 0,.slice none 0 0,.slice none 0 0]) (t:=36) ?_; intro gb758 hg w9 hbox hb; have n0_:=am_ (Kd.R_below (kr_ HO754.out) hb); have n1_:=am_ (Kd.R_below (kr_ HO757.out) hb); have n2_:=am_ (bb_ BK748.out hb); have n3_:=am_ (bb_ BK749.out hb); have n4_:=am_ (below_step (bl2_ HB.out GE748.out GE749.out) hb); have n5_:=am_ (hbox); have n6_:=am_ ((bs2_ hg HB.out GE748.out GE749.out:w.heap.size ≤ gb758)); have n7_:=am_ ((bs2_ hg HB.out GE748.out GE749.out:w.heap.size ≤ gb758)); have n8_:=am_ ((nl_ hg BK748.out:gb748 ≠ gb758)); have n9_:=am_ ((ng_ hg BK748.out:gb758 ≠ gb748)); have n10_:=am_ ((nl_ hg BK749.out:gb749 ≠ gb758)); have n11_:=am_ ((ng_ hg BK749.out:gb758 ≠ gb749)); clear HO754; clear HO757; clear BK748; clear BK749; clear HB; have HO754:=n0_; have HO757:=n1_; have BK748:=n2_; have BK749:=n3_; have HB:=n4_; have BK758:=n5_; have GW758:=n6_; have GE758:=n7_; have NB748_758:=n8_; have NB758_748:=n9_; have NB749_758:=n10_; have NB758_749:=n11_; clear n0_ n1_ n2_ n3_ n4_ n5_ n6_ n7_ n8_ n9_ n10_ n11_; clear hb hbox hg; have hnb10:=NB758_748.out; have hnc10:=NB748_758.out; have hnb11:=NB758_749.out; have hnc11:=NB749_758.out; have hcz12_0:w9.cell? ⟨gb758,0,none⟩ = some (.int .i64 0):=(bc_ BK758.out 0).trans rfl; have hcz12_1:w9.cell? ⟨gb758,1,none⟩ = some (.int .i64 0):=(bc_ BK758.out 1).trans rfl; have hcz12_2:w9.cell? ⟨gb758,2,none⟩ = some (.slice none 0 0):=(bc_ BK758.out 2).trans rfl; have hcz12_3:w9.cell? ⟨gb758,3,none⟩ = some (.slice none 0 0):=(bc_ BK758.out 3).trans rfl; have hfz12_0:=bz_ BK758.out 0; have hfz12_1:=bz_ BK758.out 1; have hfz12_2:=bz_ BK758.out 2; have hfz12_3:=bz_ BK758.out 3; obtain ⟨Ao13,co13,eo13⟩:=Kd.R_slice HO754.out; subst eo13; obtain ⟨Ao14,co14,eo14⟩:=Kd.R_slice HO757.out; subst eo14) | ((with_reducible refine gate_dst (N:=11) rfl ?_); refine boxE_ (N:=11) (cs:=#[.int .i64 0,.int .i64 0,.slice none 0 0,.slice none 0 0]) (t:=36) ?_; intro gb759 hg w15 hbox hb; have n0_:=am_ (Kd.R_below (by (with_reducible repeat (first | apply Kd.R_alloc | apply Kd.R_drewN | apply Kd.R_drew)); exact (Kd.R_mono (Kd.R_far (p:=⟨gb758,3,none⟩) (Kd.R_far (p:=⟨gb758,2,none⟩) (Kd.R_far (p:=⟨gb758,1,none⟩) (Kd.R_far (p:=⟨gb758,0,none⟩) (Kd.R_types HO754.out BK758.out (by decide)) (fun _ hk => hk.2) (.int .i64 t750)) (fun _ hk => hk.2) (.int .i64 t751)) (fun _ hk => hk.2) (.slice Ao13 t752.length co13)) (fun _ hk => hk.2) (.slice Ao14 t755.length co14)) (fun _ h_ => h_.1))) hb); have n1_:=am_ (Kd.R_below (by (with_reducible repeat (first | apply Kd.R_alloc | apply Kd.R_drewN | apply Kd.R_drew)); exact (Kd.R_mono (Kd.R_far (p:=⟨gb758,3,none⟩) (Kd.R_far (p:=⟨gb758,2,none⟩) (Kd.R_far (p:=⟨gb758,1,none⟩) (Kd.R_far (p:=⟨gb758,0,none⟩) (Kd.R_types HO757.out BK758.out (by decide)) (fun _ hk => hk.2) (.int .i64 t750)) (fun _ hk => hk.2) (.int .i64 t751)) (fun _ hk => hk.2) (.slice Ao13 t752.length co13)) (fun _ hk => hk.2) (.slice Ao14 t755.length co14)) (fun _ h_ => h_.1))) hb); have n2_:=am_ (blk_below (g:=gb748) (o:=.cells #[.int .i64 a2_0,.int .i64 a2_1] 84 (0,0)) (bf4_ NB748_758.out NB748_758.out NB748_758.out NB748_758.out BK748.out) hb); have n3_:=am_ (blk_below (g:=gb749) (o:=.cells #[.int .i64 0,.int .i64 0,.slice none 0 0,.slice none 0 0] 36 (0,0)) (bf4_ NB749_758.out NB749_758.out NB749_758.out NB749_758.out BK749.out) hb); have n4_:=am_ (blk_below (g:=gb758) (o:=.cells #[.int .i64 t750,.int .i64 t751,.slice Ao13 t752.length co13,.slice Ao14 t755.length co14] 36 (0,0)) (by (with_reducible repeat (first | refine blk_drewN ?_ _ | refine blk_drew ?_ | refine blk_alloc ?_ _)); refine blk_put (cs:=#[.int .i64 t750,.int .i64 t751,.slice Ao13 t752.length co13,.slice none 0 0]) ?_ 3 _ rfl; (with_reducible repeat (first | refine blk_drewN ?_ _ | refine blk_drew ?_ | refine blk_alloc ?_ _)); refine blk_put (cs:=#[.int .i64 t750,.int .i64 t751,.slice none 0 0,.slice none 0 0]) ?_ 2 _ rfl; (with_reducible repeat (first | refine blk_drewN ?_ _ | refine blk_drew ?_ | refine blk_alloc ?_ _)); refine blk_put (cs:=#[.int .i64 t750,.int .i64 0,.slice none 0 0,.slice none 0 0]) ?_ 1 _ rfl; (with_reducible repeat (first | refine blk_drewN ?_ _ | refine blk_drew ?_ | refine blk_alloc ?_ _)); refine blk_put (cs:=#[.int .i64 0,.int .i64 0,.slice none 0 0,.slice none 0 0]) ?_ 0 _ rfl; (with_reducible repeat (first | refine blk_drewN ?_ _ | refine blk_drew ?_ | refine blk_alloc ?_ _)); exact BK758.out) hb); have n5_:=am_ (below_step (bl3_ HB.out GE748.out GE749.out GE758.out) hb); have n6_:=am_ (hbox); have n7_:=am_ ((bs3_ hg HB.out GE748.out GE749.out GE758.out:w.heap.size ≤ gb759)); have n8_:=am_ ((bs3_ hg HB.out GE748.out GE749.out GE758.out:w.heap.size ≤ gb759)); have n9_:=am_ ((by rw [hg]; exact Nat.ne_of_lt (blk_lt (g:=gb748) (o:=.cells #[.int .i64 a2_0,.int .i64 a2_1] 84 (0,0)) (bf4_ NB748_758.out NB748_758.out NB748_758.out NB748_758.out BK748.out)):gb748 ≠ gb759)); have n10_:=am_ ((by rw [hg]; exact Nat.ne_of_gt (blk_lt (g:=gb748) (o:=.cells #[.int .i64 a2_0,.int .i64 a2_1] 84 (0,0)) (bf4_ NB748_758.out NB748_758.out NB748_758.out NB748_758.out BK748.out)):gb759 ≠ gb748)); have n11_:=am_ ((by rw [hg]; exact Nat.ne_of_lt (blk_lt (g:=gb749) (o:=.cells #[.int .i64 0,.int .i64 0,.slice none 0 0,.slice none 0 0] 36 (0,0)) (bf4_ NB749_758.out NB749_758.out NB749_758.out NB749_758.out BK749.out)):gb749 ≠ gb759)); have n12_:=am_ ((by rw [hg]; exact Nat.ne_of_gt (blk_lt (g:=gb749) (o:=.cells #[.int .i64 0,.int .i64 0,.slice none 0 0,.slice none 0 0] 36 (0,0)) (bf4_ NB749_758.out NB749_758.out NB749_758.out NB749_758.out BK749.out)):gb759 ≠ gb749)); have n13_:=am_ ((by rw [hg]; exact Nat.ne_of_lt (blk_lt (g:=gb758) (o:=.cells #[.int .i64 t750,.int .i64 t751,.slice Ao13 t752.length co13,.slice Ao14 t755.length co14] 36 (0,0)) (by (with_reducible repeat (first | refine blk_drewN ?_ _ | refine blk_drew ?_ | refine blk_alloc ?_ _)); refine blk_put (cs:=#[.int .i64 t750,.int .i64 t751,.slice Ao13 t752.length co13,.slice none 0 0]) ?_ 3 _ rfl; (with_reducible repeat (first | refine blk_drewN ?_ _ | refine blk_drew ?_ | refine blk_alloc ?_ _)); refine blk_put (cs:=#[.int .i64 t750,.int .i64 t751,.slice none 0 0,.slice none 0 0]) ?_ 2 _ rfl; (with_reducible repeat (first | refine blk_drewN ?_ _ | refine blk_drew ?_ | refine blk_alloc ?_ _)); refine blk_put (cs:=#[.int .i64 t750,.int .i64 0,.slice none 0 0,.slice none 0 0]) ?_ 1 _ rfl; (with_reducible repeat (first | refine blk_drewN ?_ _ | refine blk_drew ?_ | refine blk_alloc ?_ _)); refine blk_put (cs:=#[.int .i64 0,.int .i64 0,.slice none 0 0,.slice none 0 0]) ?_ 0 _ rfl; (with_reducible repeat (first | refine blk_drewN ?_ _ | refine blk_drew ?_ | refine blk_alloc ?_ _)); exact BK758.out)):gb758 ≠ gb759)); have n14_:=am_ ((by rw [hg]; exact Nat.ne_of_gt (blk_lt (g:=gb758) (o:=.cells #[.int .i64 t750,.int .i64 t751,.slice Ao13 t752.length co13,.slice Ao14 t755.length co14] 36 (0,0)) (by (with_reducible repeat (first | refine blk_drewN ?_ _ | refine blk_drew ?_ | refine blk_alloc ?_ _)); refine blk_put (cs:=#[.int .i64 t750,.int .i64 t751,.slice Ao13 t752.length co13,.slice none 0 0]) ?_ 3 _ rfl; (with_reducible repeat (first | refine blk_drewN ?_ _ | refine blk_drew ?_ | refine blk_alloc ?_ _)); refine blk_put (cs:=#[.int .i64 t750,.int .i64 t751,.slice none 0 0,.slice none 0 0]) ?_ 2 _ rfl; (with_reducible repeat (first | refine blk_drewN ?_ _ | refine blk_drew ?_ | refine blk_alloc ?_ _)); refine blk_put (cs:=#[.int .i64 t750,.int .i64 0,.slice none 0 0,.slice none 0 0]) ?_ 1 _ rfl; (with_reducible repeat (first | refine blk_drewN ?_ _ | refine blk_drew ?_ | refine blk_alloc ?_ _)); refine blk_put (cs:=#[.int .i64 0,.int .i64 0,.slice none 0 0,.slice none 0 0]) ?_ 0 _ rfl; (with_reducible repeat (first | refine blk_drewN ?_ _ | refine blk_drew ?_ | refine blk_alloc ?_ _)); exact BK758.out)):gb759 ≠ gb758)); clear HO754; clear HO757; clear BK748; clear BK749; clear BK758; clear HB; have HO754:=n0_; have HO757:=n1_; have BK748:=n2_; have BK749:=n3_; have BK758:=n4_; have HB:=n5_; have BK759:=n6_; have GW759:=n7_; have GE759:=n8_; have NB748_759:=n9_; have NB759_748:=n10_; have NB749_759:=n11_; have NB759_749:=n12_; have NB758_759:=n13_; have NB759_758:=n14_; clear n0_ n1_ n2_ n3_ n4_ n5_ n6_ n7_ n8_ n9_ n10_ n11_ n12_ n13_ n14_; clear hb hbox hg; have hnb16:=NB759_748.out; have hnc16:=NB748_759.out; have hnb17:=NB759_749.out; have hnc17:=NB749_759.out; have hnb18:=NB759_758.out; have hnc18:=NB758_759.out; have hcz19_0:w15.cell? ⟨gb759,0,none⟩ = some (.int .i64 0):=(bc_ BK759.out 0).trans rfl; have hcz19_1:w15.cell? ⟨gb759,1,none⟩ = some (.int .i64 0):=(bc_ BK759.out 1).trans rfl; have hcz19_2:w15.cell? ⟨gb759,2,none⟩ = some (.slice none 0 0):=(bc_ BK759.out 2).trans rfl; have hcz19_3:w15.cell? ⟨gb759,3,none⟩ = some (.slice none 0 0):=(bc_ BK759.out 3).trans rfl; have hfz19_0:=bz_ BK759.out 0; have hfz19_1:=bz_ BK759.out 1; have hfz19_2:=bz_ BK759.out 2; have hfz19_3:=bz_ BK759.out 3))
 go_loopg [12] k (fun kq v12 w' => ∃ (x12_1:Int) (x749000_1:Int) (x749001_1:Int) (x750000_1:Int) (x750001_1:Int) (x760000_1:Int) (x760001_1:Int) (x760002_1:List Int) (x760003_1:List Int) (u760002:Value) (u760003:Value),v12 = .int .i64 x12_1 ∧ Aside0 (spec_liDraw.l0 kq a3 x12_1 x749000_1 x749001_1 t750 t751 t752 t755 x760000_1 x760001_1 x760002_1 x760003_1 = some (r1,r2,r3,r4,r5)) ∧ Aside0 (kq ≤ k) ∧ Aside0 (Kd.R (Kd.int .i64) 3 w' w.heap.size (fun k_ => some k_ ≠ ((.slice Ao14 t755.length co14):Value).ownBlock ∧ some k_ ≠ (u760002:Value).ownBlock ∧ some k_ ≠ (u760003:Value).ownBlock) (.slice Ao13 t752.length co13) t752) ∧ Aside0 (Kd.R (Kd.int .i64) 3 w' w.heap.size (fun k_ => some k_ ≠ ((.slice Ao13 t752.length co13):Value).ownBlock ∧ some k_ ≠ (u760002:Value).ownBlock ∧ some k_ ≠ (u760003:Value).ownBlock) (.slice Ao14 t755.length co14) t755) ∧ Aside0 (Kd.R (Kd.int .i64) 3 w' w.heap.size (fun k_ => some k_ ≠ ((.slice Ao13 t752.length co13):Value).ownBlock ∧ some k_ ≠ ((.slice Ao14 t755.length co14):Value).ownBlock ∧ some k_ ≠ (u760003:Value).ownBlock) u760002 x760002_1) ∧ Aside0 (Kd.R (Kd.int .i64) 3 w' w.heap.size (fun k_ => some k_ ≠ ((.slice Ao13 t752.length co13):Value).ownBlock ∧ some k_ ≠ ((.slice Ao14 t755.length co14):Value).ownBlock ∧ some k_ ≠ (u760002:Value).ownBlock) u760003 x760003_1) ∧ Aside0 (w'.heap[gb748]? = some (.cells #[.int .i64 x749000_1,.int .i64 x749001_1] 84 (0,0))) ∧ Aside0 (w'.heap[gb749]? = some (.cells #[.int .i64 x750000_1,.int .i64 x750001_1,(.slice none 0 0),(.slice none 0 0)] 36 (0,0))) ∧ Aside0 (w'.heap[gb758]? = some (.cells #[.int .i64 t750,.int .i64 t751,(.slice Ao13 t752.length co13),(.slice Ao14 t755.length co14)] 36 (0,0))) ∧ Aside0 (w'.heap[gb759]? = some (.cells #[.int .i64 x760000_1,.int .i64 x760001_1,u760002,u760003] 36 (0,0))) ∧ Aside0 (Below w.heap.size w w'))
 case atStart => exact ⟨(0),(a2_0),(a2_1),(0),(0),(a0),(a1),(([]:List Int)),(([]:List Int)),(.slice none 0 0),(.slice none 0 0),rs_,H',⟨Nat.le_refl _⟩,⟨by (with_reducible repeat (first | apply Kd.R_alloc | apply Kd.R_drewN | apply Kd.R_drew)); exact Kd.R_mono (Kd.R_far (p:=⟨gb759,3,none⟩) (Kd.R_far (p:=⟨gb759,2,none⟩) (Kd.R_far (p:=⟨gb759,1,none⟩) (Kd.R_far (p:=⟨gb759,0,none⟩) (Kd.R_types HO754.out BK759.out (by decide)) (fun _ hk => hk.2) (.int .i64 a0)) (fun _ hk => hk.2) (.int .i64 a1)) (fun _ hk => hk.2) (.slice none 0 0)) (fun _ hk => hk.2) (.slice none 0 0)) (fun _ hk => ⟨hk.1,⟨(by simp [Value.ownBlock]),(by simp [Value.ownBlock])⟩⟩)⟩,⟨by (with_reducible repeat (first | apply Kd.R_alloc | apply Kd.R_drewN | apply Kd.R_drew)); exact Kd.R_mono (Kd.R_far (p:=⟨gb759,3,none⟩) (Kd.R_far (p:=⟨gb759,2,none⟩) (Kd.R_far (p:=⟨gb759,1,none⟩) (Kd.R_far (p:=⟨gb759,0,none⟩) (Kd.R_types HO757.out BK759.out (by decide)) (fun _ hk => hk.2) (.int .i64 a0)) (fun _ hk => hk.2) (.int .i64 a1)) (fun _ hk => hk.2) (.slice none 0 0)) (fun _ hk => hk.2) (.slice none 0 0)) (fun _ hk => ⟨hk.1,⟨(by simp [Value.ownBlock]),(by simp [Value.ownBlock])⟩⟩)⟩,⟨by first | exact Kd.R_nil _ _ _ _ _ | exact Kd.N_nil _ _ _ _ _ | exact Kd.V_nil _ _ _ _ _ | exact Kd.Q_nil _ _ _ _ _ | exact Kd.S_nil _ _ _ _ _⟩,⟨by first | exact Kd.R_nil _ _ _ _ _ | exact Kd.N_nil _ _ _ _ _ | exact Kd.V_nil _ _ _ _ _ | exact Kd.Q_nil _ _ _ _ _ | exact Kd.S_nil _ _ _ _ _⟩,⟨bf4_ NB748_759.out NB748_759.out NB748_759.out NB748_759.out BK748.out⟩,⟨bf4_ NB749_759.out NB749_759.out NB749_759.out NB749_759.out BK749.out⟩,⟨bf4_ NB758_759.out NB758_759.out NB758_759.out NB758_759.out BK758.out⟩,⟨by (with_reducible repeat (first | refine blk_drewN ?_ _ | refine blk_drew ?_ | refine blk_alloc ?_ _)); refine blk_put (cs:=#[.int .i64 a0,.int .i64 a1,.slice none 0 0,.slice none 0 0]) ?_ 3 _ rfl; (with_reducible repeat (first | refine blk_drewN ?_ _ | refine blk_drew ?_ | refine blk_alloc ?_ _)); refine blk_put (cs:=#[.int .i64 a0,.int .i64 a1,.slice none 0 0,.slice none 0 0]) ?_ 2 _ rfl; (with_reducible repeat (first | refine blk_drewN ?_ _ | refine blk_drew ?_ | refine blk_alloc ?_ _)); refine blk_put (cs:=#[.int .i64 a0,.int .i64 0,.slice none 0 0,.slice none 0 0]) ?_ 1 _ rfl; (with_reducible repeat (first | refine blk_drewN ?_ _ | refine blk_drew ?_ | refine blk_alloc ?_ _)); refine blk_put (cs:=#[.int .i64 0,.int .i64 0,.slice none 0 0,.slice none 0 0]) ?_ 0 _ rfl; (with_reducible repeat (first | refine blk_drewN ?_ _ | refine blk_drew ?_ | refine blk_alloc ?_ _)); exact BK759.out⟩,⟨bl4_ HB.out GE748.out GE749.out GE758.out GE759.out⟩⟩
 case round =>
  clear H'
  try clear c1
  try clear p2
  try clear c6
  try clear c10
  try clear c11
  try clear c16
  try clear c17
  try clear c18
  try clear hcz12_0
  try clear hcz12_1
  try clear hcz12_2
  try clear hcz12_3
  try clear hcz19_0
  try clear hcz19_1
  try clear hcz19_2
  try clear hcz19_3
  try clear hfz12_0
  try clear hfz12_1
  try clear hfz12_2
  try clear hfz12_3
  try clear hfz19_0
  try clear hfz19_1
  try clear hfz19_2
  try clear hfz19_3
  obtain ⟨x12_1,x749000_1,x749001_1,x750000_1,x750001_1,x760000_1,x760001_1,x760002_1,x760003_1,u760002,u760003,rfl,HA,HK1,HO_759002,HO_759003,HO_760002,HO_760003,BK748,BK749,BK758,BK759,HB⟩:=hrel
  cases gk with
  | zero => exact absurd HA.out (by simp [spec_liDraw.l0])
  | succ k1 =>
   have H:=HA.out
   clear HA
   simp only [spec_liDraw.l0] at H
   by_cases c20:x12_1 < (a3.size:Int)
   ·rw [if_pos c20] at H
    have c20b0:decide (x12_1 < (a3.size:Int)) = true:=decide_eq_true c20
    clear c20
    have H':=am_ H
    clear H
    go_wp2
    go_loopg [13,14] k1 (fun kq v13 v14 w' => ∃ (x13_2:Int) (x14_2:Int),v13 = .int .i64 x13_2 ∧ v14 = .int .i64 x14_2 ∧ Aside0 (spec_liDraw.l1 kq a3 x12_1 x13_2 x14_2 x749000_1 x749001_1 t750 t751 t752 t755 x760000_1 x760001_1 x760002_1 x760003_1 = some (r1,r2,r3,r4,r5)) ∧ Aside0 (kq ≤ k1) ∧ Aside0 (Kd.R (Kd.int .i64) 3 w' w.heap.size (fun k_ => some k_ ≠ ((.slice Ao14 t755.length co14):Value).ownBlock ∧ some k_ ≠ (u760002:Value).ownBlock ∧ some k_ ≠ (u760003:Value).ownBlock) (.slice Ao13 t752.length co13) t752) ∧ Aside0 (Kd.R (Kd.int .i64) 3 w' w.heap.size (fun k_ => some k_ ≠ ((.slice Ao13 t752.length co13):Value).ownBlock ∧ some k_ ≠ (u760002:Value).ownBlock ∧ some k_ ≠ (u760003:Value).ownBlock) (.slice Ao14 t755.length co14) t755) ∧ Aside0 (Kd.R (Kd.int .i64) 3 w' w.heap.size (fun k_ => some k_ ≠ ((.slice Ao13 t752.length co13):Value).ownBlock ∧ some k_ ≠ ((.slice Ao14 t755.length co14):Value).ownBlock ∧ some k_ ≠ (u760003:Value).ownBlock) u760002 x760002_1) ∧ Aside0 (Kd.R (Kd.int .i64) 3 w' w.heap.size (fun k_ => some k_ ≠ ((.slice Ao13 t752.length co13):Value).ownBlock ∧ some k_ ≠ ((.slice Ao14 t755.length co14):Value).ownBlock ∧ some k_ ≠ (u760002:Value).ownBlock) u760003 x760003_1) ∧ Aside0 (w'.heap[gb748]? = some (.cells #[.int .i64 x749000_1,.int .i64 x749001_1] 84 (0,0))) ∧ Aside0 (w'.heap[gb749]? = some (.cells #[.int .i64 x750000_1,.int .i64 x750001_1,(.slice none 0 0),(.slice none 0 0)] 36 (0,0))) ∧ Aside0 (w'.heap[gb758]? = some (.cells #[.int .i64 t750,.int .i64 t751,(.slice Ao13 t752.length co13),(.slice Ao14 t755.length co14)] 36 (0,0))) ∧ Aside0 (w'.heap[gb759]? = some (.cells #[.int .i64 x760000_1,.int .i64 x760001_1,u760002,u760003] 36 (0,0))) ∧ Aside0 (Below w.heap.size w w'))
    case atStart => exact ⟨((-1)),(0),rs_,rs_,H',⟨Nat.le_refl _⟩,⟨kr_ HO_759002.out⟩,⟨kr_ HO_759003.out⟩,⟨kr_ HO_760002.out⟩,⟨kr_ HO_760003.out⟩,⟨bk_ BK748.out⟩,⟨bk_ BK749.out⟩,⟨bk_ BK758.out⟩,⟨bk_ BK759.out⟩,⟨bl4_ HB.out GE748.out GE749.out GE758.out GE759.out⟩⟩
    case round =>
     clear H'
     try clear c1
     try clear c2
     try clear p2
     try clear c6
     try clear c10
     try clear c11
     try clear c16
     try clear c17
     try clear c18
     try clear c20
     try clear c20b0
     try clear hcz12_0
     try clear hcz12_1
     try clear hcz12_2
     try clear hcz12_3
     try clear hcz19_0
     try clear hcz19_1
     try clear hcz19_2
     try clear hcz19_3
     try clear hfz12_0
     try clear hfz12_1
     try clear hfz12_2
     try clear hfz12_3
     try clear hfz19_0
     try clear hfz19_1
     try clear hfz19_2
     try clear hfz19_3
     try clear p2
     obtain ⟨x13_2,x14_2,rfl,rfl,HA,HK2,HO_759002,HO_759003,HO_760002,HO_760003,BK748,BK749,BK758,BK759,HB⟩:=hrel
     cases gk with
     | zero => exact absurd HA.out (by simp [spec_liDraw.l1])
     | succ k2 =>
      have H:=HA.out
      clear HA
      simp only [spec_liDraw.l1] at H
      by_cases c21:x14_2 < 4
      ·rw [if_pos c21] at H
       have c21b0:decide (x14_2 < 4) = true:=decide_eq_true c21
       clear c21
       by_cases c22:0 ≤ x12_1
       ·rw [if_pos c22] at H
        have c22b0:decide (0 ≤ x12_1) = true:=decide_eq_true c22
        clear c22
        by_cases c23:x12_1 < (a3.size:Int)
        ·rw [if_pos c23] at H
         have c23b0:decide (x12_1 < (a3.size:Int)) = true:=decide_eq_true c23
         clear c23
         replace H:=bi_ H
         obtain ⟨t760,A250,H⟩:=H
         replace H:(if 0 ≤ x14_2 then (if x14_2 < (t760.size:Int) then (if (bt a3 x12_1) = (bt t760 x14_2) then (spec_liDraw.l1 k2 a3 x12_1 x14_2 (wrap64 (x14_2 + 1)) x749000_1 x749001_1 t750 t751 t752 t755 x760000_1 x760001_1 x760002_1 x760003_1) else (spec_liDraw.l1 k2 a3 x12_1 x13_2 (wrap64 (x14_2 + 1)) x749000_1 x749001_1 t750 t751 t752 t755 x760000_1 x760001_1 x760002_1 x760003_1)) else (none)) else (none)) = some (r1,r2,r3,r4,r5):=H
         have A25:=am_ A250
         clear A250
         by_cases c26:0 ≤ x14_2
         ·rw [if_pos c26] at H
          have c26b0:decide (0 ≤ x14_2) = true:=decide_eq_true c26
          clear c26
          by_cases c27:x14_2 < (t760.size:Int)
          ·rw [if_pos c27] at H
           have c27b0:decide (x14_2 < (t760.size:Int)) = true:=decide_eq_true c27
           clear c27
           by_cases c29:(bt a3 x12_1) = (bt t760 x14_2)
           ·rw [if_pos c29] at H
            have c29b0:((bt a3 x12_1) == (bt t760 x14_2)) = true:=beq_iff_eq.mpr c29
            have c29b1:((bt a3 x12_1) != (bt t760 x14_2)) = false:=bne_eq_false_iff_eq.mpr c29
            clear c29
            have H':=am_ H
            clear H
            try go_wp2
            have n0_:=am_ (Kd.R_drew HO_759002.out)
            have n1_:=am_ (Kd.R_drew HO_759003.out)
            have n2_:=am_ (Kd.R_drew HO_760002.out)
            have n3_:=am_ (Kd.R_drew HO_760003.out)
            have n4_:=am_ (blk_drew BK748.out)
            have n5_:=am_ (blk_drew BK749.out)
            have n6_:=am_ (blk_drew BK758.out)
            have n7_:=am_ (blk_drew BK759.out)
            have n8_:=am_ (below_drew1 HB.out)
            clear HO_759002
            clear HO_759003
            clear HO_760002
            clear HO_760003
            clear BK748
            clear BK749
            clear BK758
            clear BK759
            clear HB
            have HO_759002:=n0_
            have HO_759003:=n1_
            have HO_760002:=n2_
            have HO_760003:=n3_
            have BK748:=n4_
            have BK749:=n5_
            have BK758:=n6_
            have BK759:=n7_
            have HB:=n8_
            clear n0_ n1_ n2_ n3_ n4_ n5_ n6_ n7_ n8_
            have p24:0 ≤ (x12_1:Int):=of_decide_eq_true as_
            have q24:x12_1 < (a3.size:Int):=of_decide_eq_true as_
            have hx24:=bt_at a3 x12_1
            replace p24:=eq_true p24
            replace q24:=eq_true q24
            refine start_ (n:=7) (S:=fun w' => True) (ds:=[]) #[Ff,Ff,Ff,Ff,Ff,Ff,Ff] (by kernel_rfl) rfl rfl trivial (fun hHeld => ?_)
            generalize wr.drew = w30 at HO_759002 HO_759003 HO_760002 HO_760003 BK748 BK749 BK758 BK759 HB hHeld ⊢
            refine pure_ (i:=0) (N:=some 35) (v:=?_) (a':=?_) #[Tt,Ff,Ff,Ff,Ff,Ff,Ff] rfl rfl (by kernel_rfl) (fun _ _ _ h => h) (Or.inl ⟨by rfl,?_⟩) ?_ ?_
            rotate_left
            ·intro w'
             go_simp
             with_reducible rfl
            rotate_left
            ·simp only [Act.put,List.setIfInBounds_toArray,List.set_cons_zero,List.set_cons_succ,i64_w,i32_w]
             rfl
            refine pure_ (i:=1) (N:=some 36) (v:=?_) (a':=?_) #[Tt,Tt,Ff,Ff,Ff,Ff,Ff] rfl rfl (by kernel_rfl) (fun _ _ _ h => h) (Or.inl ⟨by rfl,?_⟩) ?_ ?_
            rotate_left
            ·intro w'
             go_simp
             with_reducible rfl
            rotate_left
            ·simp only [Act.put,List.setIfInBounds_toArray,List.set_cons_zero,List.set_cons_succ,i64_w,i32_w]
             rfl
            refine pure_ (i:=4) (N:=some 39) (v:=?_) (a':=?_) #[Tt,Tt,Ff,Ff,Tt,Ff,Ff] rfl rfl (by kernel_rfl) (fun _ _ _ h => h) (Or.inl ⟨by rfl,?_⟩) ?_ ?_
            rotate_left
            ·intro w'
             go_simp
             with_reducible rfl
            rotate_left
            ·simp only [Act.put,List.setIfInBounds_toArray,List.set_cons_zero,List.set_cons_succ,i64_w,i32_w]
             rfl
            refine take_ (i:=2) (N:=some 37) (v:=?_) (a':=?_) #[Tt,Tt,Tt,Ff,Tt,Ff,Ff] rfl rfl (by kernel_rfl) (fun _ _ _ h => h) (Or.inl ⟨by rfl,?_⟩) hHeld ?_ ?_
            rotate_left
            ·intro w' _
             go_simp
             with_reducible rfl
            rotate_left
            ·simp only [Act.put,List.setIfInBounds_toArray,List.set_cons_zero,List.set_cons_succ,i64_w,i32_w]
             rfl
            refine one_ (i:=3) (N:=some 38) #[Tt,Tt,Tt,Tt,Tt,Ff,Ff] rfl rfl (by kernel_rfl) (by decide) (fun K hK => ?_)
            refine goes_ Tryd.func112 (by kernel_rfl) rfl #[] (by rfl) rfl rfl ob_ ?_
            with_reducible refine (spec_liDirs.calls  t760 _ A25.out).mono ?_
            rintro e w' ⟨rfl,⟨nd,rfl⟩⟩
            refine ⟨_,rfl,?_⟩
            have p28:0 ≤ (x14_2:Int):=of_decide_eq_true as_
            have q28:x14_2 < (t760.size:Int):=of_decide_eq_true as_
            have hx28:=bt_at t760 x14_2
            replace p28:=eq_true p28
            replace q28:=eq_true q28
            refine hK.out _ _ trivial (fun hHeld => ?_)
            clear hK K
            refine norm_ (a':=_) ap_ ?_
            refine take_ (i:=5) (N:=some 40) (v:=?_) (a':=?_) #[Tt,Tt,Tt,Tt,Tt,Tt,Ff] rfl rfl (by kernel_rfl) (fun _ _ _ h => h) (Or.inl ⟨by rfl,?_⟩) hHeld ?_ ?_
            rotate_left
            ·intro w' _
             go_simp
             with_reducible rfl
            rotate_left
            ·simp only [Act.put,List.setIfInBounds_toArray,List.set_cons_zero,List.set_cons_succ,i64_w,i32_w]
             rfl
            refine pure_ (i:=6) (N:=some 41) (v:=?_) (a':=?_) #[Tt,Tt,Tt,Tt,Tt,Tt,Tt] rfl rfl (by kernel_rfl) (fun _ _ _ h => h) (Or.inl ⟨by rfl,?_⟩) ?_ ?_
            rotate_left
            ·intro w'
             go_simp
             with_reducible rfl
            rotate_left
            ·simp only [Act.put,List.setIfInBounds_toArray,List.set_cons_zero,List.set_cons_succ,i64_w,i32_w]
             rfl
            refine done_ (by kernel_rfl) ?_
            try go_wp2
            go_roundg k2
            case measure => have:=HK1.out; have:=HK2.out; omega
            case rel => exact ⟨(x14_2),(wrap64 (x14_2 + 1)),rs_,rs_,H',⟨by have:=HK1.out; have:=HK2.out; omega⟩,⟨kr_ HO_759002.out⟩,⟨kr_ HO_759003.out⟩,⟨kr_ HO_760002.out⟩,⟨kr_ HO_760003.out⟩,⟨bk_ BK748.out⟩,⟨bk_ BK749.out⟩,⟨bk_ BK758.out⟩,⟨bk_ BK759.out⟩,⟨bl4_ HB.out GE748.out GE749.out GE758.out GE759.out⟩⟩
           ·rw [if_neg c29] at H
            have c29b0:((bt a3 x12_1) == (bt t760 x14_2)) = false:=beq_eq_false_iff_ne.mpr c29
            have c29b1:((bt a3 x12_1) != (bt t760 x14_2)) = true:=bne_iff_ne.mpr c29
            have H':=am_ H
            clear H
            try go_wp2
            have n0_:=am_ (Kd.R_drew HO_759002.out)
            have n1_:=am_ (Kd.R_drew HO_759003.out)
            have n2_:=am_ (Kd.R_drew HO_760002.out)
            have n3_:=am_ (Kd.R_drew HO_760003.out)
            have n4_:=am_ (blk_drew BK748.out)
            have n5_:=am_ (blk_drew BK749.out)
            have n6_:=am_ (blk_drew BK758.out)
            have n7_:=am_ (blk_drew BK759.out)
            have n8_:=am_ (below_drew1 HB.out)
            clear HO_759002
            clear HO_759003
            clear HO_760002
            clear HO_760003
            clear BK748
            clear BK749
            clear BK758
            clear BK759
            clear HB
            have HO_759002:=n0_
            have HO_759003:=n1_
            have HO_760002:=n2_
            have HO_760003:=n3_
            have BK748:=n4_
            have BK749:=n5_
            have BK758:=n6_
            have BK759:=n7_
            have HB:=n8_
            clear n0_ n1_ n2_ n3_ n4_ n5_ n6_ n7_ n8_
            have p24:0 ≤ (x12_1:Int):=of_decide_eq_true as_
            have q24:x12_1 < (a3.size:Int):=of_decide_eq_true as_
            have hx24:=bt_at a3 x12_1
            replace p24:=eq_true p24
            replace q24:=eq_true q24
            refine start_ (n:=7) (S:=fun w' => True) (ds:=[]) #[Ff,Ff,Ff,Ff,Ff,Ff,Ff] (by kernel_rfl) rfl rfl trivial (fun hHeld => ?_)
            generalize wr.drew = w31 at HO_759002 HO_759003 HO_760002 HO_760003 BK748 BK749 BK758 BK759 HB hHeld ⊢
            refine pure_ (i:=0) (N:=some 35) (v:=?_) (a':=?_) #[Tt,Ff,Ff,Ff,Ff,Ff,Ff] rfl rfl (by kernel_rfl) (fun _ _ _ h => h) (Or.inl ⟨by rfl,?_⟩) ?_ ?_
            rotate_left
            ·intro w'
             go_simp
             with_reducible rfl
            rotate_left
            ·simp only [Act.put,List.setIfInBounds_toArray,List.set_cons_zero,List.set_cons_succ,i64_w,i32_w]
             rfl
            refine pure_ (i:=1) (N:=some 36) (v:=?_) (a':=?_) #[Tt,Tt,Ff,Ff,Ff,Ff,Ff] rfl rfl (by kernel_rfl) (fun _ _ _ h => h) (Or.inl ⟨by rfl,?_⟩) ?_ ?_
            rotate_left
            ·intro w'
             go_simp
             with_reducible rfl
            rotate_left
            ·simp only [Act.put,List.setIfInBounds_toArray,List.set_cons_zero,List.set_cons_succ,i64_w,i32_w]
             rfl
            refine pure_ (i:=4) (N:=some 39) (v:=?_) (a':=?_) #[Tt,Tt,Ff,Ff,Tt,Ff,Ff] rfl rfl (by kernel_rfl) (fun _ _ _ h => h) (Or.inl ⟨by rfl,?_⟩) ?_ ?_
            rotate_left
            ·intro w'
             go_simp
             with_reducible rfl
            rotate_left
            ·simp only [Act.put,List.setIfInBounds_toArray,List.set_cons_zero,List.set_cons_succ,i64_w,i32_w]
             rfl
            refine take_ (i:=2) (N:=some 37) (v:=?_) (a':=?_) #[Tt,Tt,Tt,Ff,Tt,Ff,Ff] rfl rfl (by kernel_rfl) (fun _ _ _ h => h) (Or.inl ⟨by rfl,?_⟩) hHeld ?_ ?_
            rotate_left
            ·intro w' _
             go_simp
             with_reducible rfl
            rotate_left
            ·simp only [Act.put,List.setIfInBounds_toArray,List.set_cons_zero,List.set_cons_succ,i64_w,i32_w]
             rfl
            refine one_ (i:=3) (N:=some 38) #[Tt,Tt,Tt,Tt,Tt,Ff,Ff] rfl rfl (by kernel_rfl) (by decide) (fun K hK => ?_)
            refine goes_ Tryd.func112 (by kernel_rfl) rfl #[] (by rfl) rfl rfl ob_ ?_
            with_reducible refine (spec_liDirs.calls  t760 _ A25.out).mono ?_
            rintro e w' ⟨rfl,⟨nd,rfl⟩⟩
            refine ⟨_,rfl,?_⟩
            have p28:0 ≤ (x14_2:Int):=of_decide_eq_true as_
            have q28:x14_2 < (t760.size:Int):=of_decide_eq_true as_
            have hx28:=bt_at t760 x14_2
            replace p28:=eq_true p28
            replace q28:=eq_true q28
            refine hK.out _ _ trivial (fun hHeld => ?_)
            clear hK K
            refine norm_ (a':=_) ap_ ?_
            refine take_ (i:=5) (N:=some 40) (v:=?_) (a':=?_) #[Tt,Tt,Tt,Tt,Tt,Tt,Ff] rfl rfl (by kernel_rfl) (fun _ _ _ h => h) (Or.inl ⟨by rfl,?_⟩) hHeld ?_ ?_
            rotate_left
            ·intro w' _
             go_simp
             with_reducible rfl
            rotate_left
            ·simp only [Act.put,List.setIfInBounds_toArray,List.set_cons_zero,List.set_cons_succ,i64_w,i32_w]
             rfl
            refine pure_ (i:=6) (N:=some 41) (v:=?_) (a':=?_) #[Tt,Tt,Tt,Tt,Tt,Tt,Tt] rfl rfl (by kernel_rfl) (fun _ _ _ h => h) (Or.inl ⟨by rfl,?_⟩) ?_ ?_
            rotate_left
            ·intro w'
             go_simp
             with_reducible rfl
            rotate_left
            ·simp only [Act.put,List.setIfInBounds_toArray,List.set_cons_zero,List.set_cons_succ,i64_w,i32_w]
             rfl
            refine done_ (by kernel_rfl) ?_
            try go_wp2
            go_roundg k2
            case measure => have:=HK1.out; have:=HK2.out; omega
            case rel => exact ⟨(x13_2),(wrap64 (x14_2 + 1)),rs_,rs_,H',⟨by have:=HK1.out; have:=HK2.out; omega⟩,⟨kr_ HO_759002.out⟩,⟨kr_ HO_759003.out⟩,⟨kr_ HO_760002.out⟩,⟨kr_ HO_760003.out⟩,⟨bk_ BK748.out⟩,⟨bk_ BK749.out⟩,⟨bk_ BK758.out⟩,⟨bk_ BK759.out⟩,⟨bl4_ HB.out GE748.out GE749.out GE758.out GE759.out⟩⟩
          ·rw [if_neg c27] at H
           exact absurd H (by simp)
         ·rw [if_neg c26] at H
          exact absurd H (by simp)
        ·rw [if_neg c23] at H
         exact absurd H (by simp)
       ·rw [if_neg c22] at H
        exact absurd H (by simp)
      ·rw [if_neg c21] at H
       have c21b0:decide (x14_2 < 4) = false:=decide_eq_false c21
       clear c21
       by_cases c32:x13_2 < 0
       ·rw [if_pos c32] at H
        have c32b0:decide (x13_2 < 0) = true:=decide_eq_true c32
        clear c32
        simp only [Option.some.injEq,Prod.mk.injEq] at H
        obtain ⟨rfl,rfl,rfl,rfl,rfl⟩:=H
        have hnb33:=NB749_748.out
        have hnc33:=NB748_749.out
        have hnb34:=NB749_758.out
        have hnc34:=NB758_749.out
        have hnb35:=NB749_759.out
        have hnc35:=NB759_749.out
        have hcz36_0:wr.cell? ⟨gb749,0,none⟩ = some (.int .i64 x750000_1):=(bc_ BK749.out 0).trans rfl
        have hcz36_1:wr.cell? ⟨gb749,1,none⟩ = some (.int .i64 x750001_1):=(bc_ BK749.out 1).trans rfl
        have hcz36_2:wr.cell? ⟨gb749,2,none⟩ = some (.slice none 0 0):=(bc_ BK749.out 2).trans rfl
        have hcz36_3:wr.cell? ⟨gb749,3,none⟩ = some (.slice none 0 0):=(bc_ BK749.out 3).trans rfl
        have hfz36_0:=bz_ BK749.out 0
        have hfz36_1:=bz_ BK749.out 1
        have hfz36_2:=bz_ BK749.out 2
        have hfz36_3:=bz_ BK749.out 3
        go_wp2
        refine bodyPost_ret (results_ct rfl _ _ gb749 36 #[.int .i64 0,.int .i64 0,.slice none 0 0,.slice none 0 0] (0,0) _ rfl (by (with_reducible repeat (first | refine blk_drewN ?_ _ | refine blk_drew ?_ | refine blk_alloc ?_ _)); refine blk_put (cs:=#[.int .i64 0,.int .i64 0,.slice none 0 0,.slice none 0 0]) ?_ 3 _ rfl; (with_reducible repeat (first | refine blk_drewN ?_ _ | refine blk_drew ?_ | refine blk_alloc ?_ _)); refine blk_put (cs:=#[.int .i64 0,.int .i64 0,.slice none 0 0,.slice none 0 0]) ?_ 2 _ rfl; (with_reducible repeat (first | refine blk_drewN ?_ _ | refine blk_drew ?_ | refine blk_alloc ?_ _)); refine blk_put (cs:=#[.int .i64 0,.int .i64 x750001_1,.slice none 0 0,.slice none 0 0]) ?_ 1 _ rfl; (with_reducible repeat (first | refine blk_drewN ?_ _ | refine blk_drew ?_ | refine blk_alloc ?_ _)); refine blk_put (cs:=#[.int .i64 x750000_1,.int .i64 x750001_1,.slice none 0 0,.slice none 0 0]) ?_ 0 _ rfl; (with_reducible repeat (first | refine blk_drewN ?_ _ | refine blk_drew ?_ | refine blk_alloc ?_ _)); exact BK749.out) Tryd.underlying36 rfl (by kernel_rfl)) rfl ?_
        exact ⟨_,_,er_,by first | exact Kd.R_nil _ _ _ _ _ | exact Kd.N_nil _ _ _ _ _ | exact Kd.V_nil _ _ _ _ _ | exact Kd.Q_nil _ _ _ _ _ | exact Kd.S_nil _ _ _ _ _,by first | exact Kd.R_nil _ _ _ _ _ | exact Kd.N_nil _ _ _ _ _ | exact Kd.V_nil _ _ _ _ _ | exact Kd.Q_nil _ _ _ _ _ | exact Kd.S_nil _ _ _ _ _,bl4_ HB.out GE748.out GE749.out GE758.out GE759.out⟩
       ·rw [if_neg c32] at H
        have c32b0:decide (x13_2 < 0) = false:=decide_eq_false c32
        clear c32
        replace H:=bi_ H
        obtain ⟨⟨t761,t762,t763⟩,A370,H⟩:=H
        replace H:(if t763 = true then ((spec_liNext.f k2 x760000_1 x760001_1 x760002_1 x760003_1 x749000_1 x749001_1 x13_2).bind fun bt765 => (if bt765.2.2 = true then (some (0,0,([]:List Int),([]:List Int),false)) else ((spec_fiMissing.f k2 x760000_1 x760001_1 x760002_1 x760003_1).bind fun bt769 => ((spec_liEdge.f k2 t750 t751 t752 t755 x749000_1 x749001_1 x13_2).bind fun bt777 => ((spec_fiLess.f k2 bt769.1 bt769.2.1 bt769.2.2.1 bt769.2.2.2 bt777.1 bt777.2.1 bt777.2.2.1 bt777.2.2.2).bind fun bt785 => ((spec_fiMissing.f k2 bt785.1 bt785.2.1 bt785.2.2.1 bt785.2.2.2).bind fun bt793 => (spec_liDraw.l0 k2 a3 (wrap64 (x12_1 + 1)) t761 t762 t750 t751 t752 t755 bt793.1 bt793.2.1 bt793.2.2.1 bt793.2.2.2))))))) else (some (0,0,([]:List Int),([]:List Int),false))) = some (r1,r2,r3,r4,r5):=H
        have A37:=am_ A370
        clear A370
        by_cases c38:t763 = true
        ·subst c38
         have H1:((spec_liNext.f k2 x760000_1 x760001_1 x760002_1 x760003_1 x749000_1 x749001_1 x13_2).bind fun bt765 => (if bt765.2.2 = true then (some (0,0,([]:List Int),([]:List Int),false)) else ((spec_fiMissing.f k2 x760000_1 x760001_1 x760002_1 x760003_1).bind fun bt769 => ((spec_liEdge.f k2 t750 t751 t752 t755 x749000_1 x749001_1 x13_2).bind fun bt777 => ((spec_fiLess.f k2 bt769.1 bt769.2.1 bt769.2.2.1 bt769.2.2.2 bt777.1 bt777.2.1 bt777.2.2.1 bt777.2.2.2).bind fun bt785 => ((spec_fiMissing.f k2 bt785.1 bt785.2.1 bt785.2.2.1 bt785.2.2.2).bind fun bt793 => (spec_liDraw.l0 k2 a3 (wrap64 (x12_1 + 1)) t761 t762 t750 t751 t752 t755 bt793.1 bt793.2.1 bt793.2.2.1 bt793.2.2.2))))))) = some (r1,r2,r3,r4,r5):=by rw [if_pos rfl] at H; exact H
         clear H
         have H:=H1
         clear H1
         replace H:=bi_ H
         obtain ⟨⟨t765,t766,t767⟩,A390,H⟩:=H
         replace H:(if t767 = true then (some (0,0,([]:List Int),([]:List Int),false)) else ((spec_fiMissing.f k2 x760000_1 x760001_1 x760002_1 x760003_1).bind fun bt769 => ((spec_liEdge.f k2 t750 t751 t752 t755 x749000_1 x749001_1 x13_2).bind fun bt777 => ((spec_fiLess.f k2 bt769.1 bt769.2.1 bt769.2.2.1 bt769.2.2.2 bt777.1 bt777.2.1 bt777.2.2.1 bt777.2.2.2).bind fun bt785 => ((spec_fiMissing.f k2 bt785.1 bt785.2.1 bt785.2.2.1 bt785.2.2.2).bind fun bt793 => (spec_liDraw.l0 k2 a3 (wrap64 (x12_1 + 1)) t761 t762 t750 t751 t752 t755 bt793.1 bt793.2.1 bt793.2.2.1 bt793.2.2.2)))))) = some (r1,r2,r3,r4,r5):=H
         have A39:=am_ A390
         clear A390
         by_cases c40:t767 = true
         ·subst c40
          have H1:(some (0,0,([]:List Int),([]:List Int),false)) = some (r1,r2,r3,r4,r5):=by rw [if_pos rfl] at H; exact H
          clear H
          have H:=H1
          clear H1
          simp only [Option.some.injEq,Prod.mk.injEq] at H
          obtain ⟨rfl,rfl,rfl,rfl,rfl⟩:=H
          have hnb41:=NB758_748.out
          have hnc41:=NB748_758.out
          have hnb42:=NB758_749.out
          have hnc42:=NB749_758.out
          have hnb43:=NB758_759.out
          have hnc43:=NB759_758.out
          have hcz44_0:wr.cell? ⟨gb758,0,none⟩ = some (.int .i64 t750):=(bc_ BK758.out 0).trans rfl
          have hcz44_1:wr.cell? ⟨gb758,1,none⟩ = some (.int .i64 t751):=(bc_ BK758.out 1).trans rfl
          have hcz44_2:wr.cell? ⟨gb758,2,none⟩ = some (.slice Ao13 t752.length co13):=(bc_ BK758.out 2).trans rfl
          have hcz44_3:wr.cell? ⟨gb758,3,none⟩ = some (.slice Ao14 t755.length co14):=(bc_ BK758.out 3).trans rfl
          have hfz44_0:=bz_ BK758.out 0
          have hfz44_1:=bz_ BK758.out 1
          have hfz44_2:=bz_ BK758.out 2
          have hfz44_3:=bz_ BK758.out 3
          have hnb45:=NB748_749.out
          have hnc45:=NB749_748.out
          have hnb46:=NB748_759.out
          have hnc46:=NB759_748.out
          have hcz47_0:wr.cell? ⟨gb748,0,none⟩ = some (.int .i64 x749000_1):=(bc_ BK748.out 0).trans rfl
          have hcz47_1:wr.cell? ⟨gb748,1,none⟩ = some (.int .i64 x749001_1):=(bc_ BK748.out 1).trans rfl
          have hfz47_0:=bz_ BK748.out 0
          have hfz47_1:=bz_ BK748.out 1
          go_wp2_with (first | ((with_reducible refine gate_callee (f:=113) rfl ?_); refine goesL_ (some 50) rfl rfl Tryd.func113 (by kernel_rfl) rfl #[.agg #[.int .i64 t750,.int .i64 t751,.slice Ao13 t752.length co13,.slice Ao14 t755.length co14],.agg #[.int .i64 x749000_1,.int .i64 x749001_1],.int .i64 x13_2] rfl ob_ ?_; (with_reducible refine (spec_liNext.calls k2 t750 t751 _ _ t752 _ _ t755 x749000_1 x749001_1 x13_2 t761 t762 true _ ?side1 ?side2 ?side3 ?side4 A37.out).mono ?_); (case side1 => repeat (first | exact (Kd.R_reads' HO_759002.out).2.2 | (with_reducible refine Kd.C_alloc ?_ _) | (with_reducible refine Kd.C_drewN ?_ _) | (with_reducible refine Kd.C_drew ?_))); (case side2 => exact (Kd.R_reads' HO_759002.out).2.1); (case side3 => repeat (first | exact (Kd.R_reads' HO_759003.out).2.2 | (with_reducible refine Kd.C_alloc ?_ _) | (with_reducible refine Kd.C_drewN ?_ _) | (with_reducible refine Kd.C_drew ?_))); (case side4 => exact (Kd.R_reads' HO_759003.out).2.1); rintro e w48 ⟨rfl,hb⟩; refine ⟨_,rfl,?_⟩; have n0_:=am_ (Kd.R_below (kr_ HO_759002.out) hb); have n1_:=am_ (Kd.R_below (kr_ HO_759003.out) hb); have n2_:=am_ (Kd.R_below (kr_ HO_760002.out) hb); have n3_:=am_ (Kd.R_below (kr_ HO_760003.out) hb); have n4_:=am_ (bb_ BK748.out hb); have n5_:=am_ (bb_ BK749.out hb); have n6_:=am_ (bb_ BK758.out hb); have n7_:=am_ (bb_ BK759.out hb); have n8_:=am_ (below_step (bl4_ HB.out GE748.out GE749.out GE758.out GE759.out) hb); clear HO_759002; clear HO_759003; clear HO_760002; clear HO_760003; clear BK748; clear BK749; clear BK758; clear BK759; clear HB; have HO_759002:=n0_; have HO_759003:=n1_; have HO_760002:=n2_; have HO_760003:=n3_; have BK748:=n4_; have BK749:=n5_; have BK758:=n6_; have BK759:=n7_; have HB:=n8_; clear n0_ n1_ n2_ n3_ n4_ n5_ n6_ n7_ n8_; (try clear hb); (try clear hb2); (try clear hk); (try clear hi)) | ((with_reducible refine gate_dst (N:=15) rfl ?_); refine boxE_ (N:=15) (cs:=#[.int .i64 0,.int .i64 0]) (t:=84) ?_; intro gb764 hg w49 hbox hb; have n0_:=am_ (Kd.R_below (kr_ HO_759002.out) hb); have n1_:=am_ (Kd.R_below (kr_ HO_759003.out) hb); have n2_:=am_ (Kd.R_below (kr_ HO_760002.out) hb); have n3_:=am_ (Kd.R_below (kr_ HO_760003.out) hb); have n4_:=am_ (bb_ BK748.out hb); have n5_:=am_ (bb_ BK749.out hb); have n6_:=am_ (bb_ BK758.out hb); have n7_:=am_ (bb_ BK759.out hb); have n8_:=am_ (below_step (bl4_ HB.out GE748.out GE749.out GE758.out GE759.out) hb); have n9_:=am_ (hbox); have n10_:=am_ ((bs4_ hg HB.out GE748.out GE749.out GE758.out GE759.out:w.heap.size ≤ gb764)); have n11_:=am_ ((bs4_ hg HB.out GE748.out GE749.out GE758.out GE759.out:w.heap.size ≤ gb764)); have n12_:=am_ ((nl_ hg BK748.out:gb748 ≠ gb764)); have n13_:=am_ ((ng_ hg BK748.out:gb764 ≠ gb748)); have n14_:=am_ ((nl_ hg BK749.out:gb749 ≠ gb764)); have n15_:=am_ ((ng_ hg BK749.out:gb764 ≠ gb749)); have n16_:=am_ ((nl_ hg BK758.out:gb758 ≠ gb764)); have n17_:=am_ ((ng_ hg BK758.out:gb764 ≠ gb758)); have n18_:=am_ ((nl_ hg BK759.out:gb759 ≠ gb764)); have n19_:=am_ ((ng_ hg BK759.out:gb764 ≠ gb759)); clear HO_759002; clear HO_759003; clear HO_760002; clear HO_760003; clear BK748; clear BK749; clear BK758; clear BK759; clear HB; have HO_759002:=n0_; have HO_759003:=n1_; have HO_760002:=n2_; have HO_760003:=n3_; have BK748:=n4_; have BK749:=n5_; have BK758:=n6_; have BK759:=n7_; have HB:=n8_; have BK764:=n9_; have GW764:=n10_; have GE764:=n11_; have NB748_764:=n12_; have NB764_748:=n13_; have NB749_764:=n14_; have NB764_749:=n15_; have NB758_764:=n16_; have NB764_758:=n17_; have NB759_764:=n18_; have NB764_759:=n19_; clear n0_ n1_ n2_ n3_ n4_ n5_ n6_ n7_ n8_ n9_ n10_ n11_ n12_ n13_ n14_ n15_ n16_ n17_ n18_ n19_; clear hb hbox hg; have hnb50:=NB764_748.out; have hnc50:=NB748_764.out; have hnb51:=NB764_749.out; have hnc51:=NB749_764.out; have hnb52:=NB764_758.out; have hnc52:=NB758_764.out; have hnb53:=NB764_759.out; have hnc53:=NB759_764.out; have hcz54_0:w49.cell? ⟨gb764,0,none⟩ = some (.int .i64 0):=(bc_ BK764.out 0).trans rfl; have hcz54_1:w49.cell? ⟨gb764,1,none⟩ = some (.int .i64 0):=(bc_ BK764.out 1).trans rfl; have hfz54_0:=bz_ BK764.out 0; have hfz54_1:=bz_ BK764.out 1; have hnb55:=NB759_749.out; have hnc55:=NB749_759.out; have hcz56_0:w49.cell? ⟨gb759,0,none⟩ = some (.int .i64 x760000_1):=(bc_ BK759.out 0).trans rfl; have hcz56_1:w49.cell? ⟨gb759,1,none⟩ = some (.int .i64 x760001_1):=(bc_ BK759.out 1).trans rfl; have hcz56_2:w49.cell? ⟨gb759,2,none⟩ = some (u760002):=(bc_ BK759.out 2).trans rfl; have hcz56_3:w49.cell? ⟨gb759,3,none⟩ = some (u760003):=(bc_ BK759.out 3).trans rfl; have hfz56_0:=bz_ BK759.out 0; have hfz56_1:=bz_ BK759.out 1; have hfz56_2:=bz_ BK759.out 2; have hfz56_3:=bz_ BK759.out 3; have hcz57_0:w49.cell? ⟨gb748,0,none⟩ = some (.int .i64 x749000_1):=(bc_ BK748.out 0).trans rfl; have hcz57_1:w49.cell? ⟨gb748,1,none⟩ = some (.int .i64 x749001_1):=(bc_ BK748.out 1).trans rfl; have hfz57_0:=bz_ BK748.out 0; have hfz57_1:=bz_ BK748.out 1; obtain ⟨Ao58,co58,eo58⟩:=Kd.R_slice HO_760002.out; subst eo58; obtain ⟨Ao59,co59,eo59⟩:=Kd.R_slice HO_760003.out; subst eo59) | ((with_reducible refine gate_callee (f:=113) rfl ?_); refine goesL_ (some 60) rfl rfl Tryd.func113 (by kernel_rfl) rfl #[.agg #[.int .i64 x760000_1,.int .i64 x760001_1,.slice Ao58 x760002_1.length co58,.slice Ao59 x760003_1.length co59],.agg #[.int .i64 x749000_1,.int .i64 x749001_1],.int .i64 x13_2] rfl ob_ ?_; (with_reducible refine (spec_liNext.calls k2 x760000_1 x760001_1 _ _ x760002_1 _ _ x760003_1 x749000_1 x749001_1 x13_2 t765 t766 true _ ?side1 ?side2 ?side3 ?side4 A39.out).mono ?_); (case side1 => refine (Kd.R_reads' (e:=3) (base:=w.heap.size) (ok:=fun k_ => (some k_ ≠ (.slice Ao13 t752.length co13:Value).ownBlock ∧ (some k_ ≠ (.slice Ao14 t755.length co14:Value).ownBlock ∧ some k_ ≠ (.slice Ao59 x760003_1.length co59:Value).ownBlock))) (n:=x760002_1.length) (c:=co58) ?_).2.2; exact (by (with_reducible repeat (first | apply Kd.R_alloc | apply Kd.R_drewN | apply Kd.R_drew)); exact (Kd.R_mono (Kd.R_far (p:=⟨gb764,1,none⟩) (Kd.R_far (p:=⟨gb764,0,none⟩) (Kd.R_types HO_760002.out BK764.out (by decide)) (fun _ hk => hk.2) (.int .i64 t761)) (fun _ hk => hk.2) (.int .i64 t762)) (fun _ h_ => h_.1)))); (case side2 => exact (Kd.R_reads' HO_760002.out).2.1); (case side3 => refine (Kd.R_reads' (e:=3) (base:=w.heap.size) (ok:=fun k_ => (some k_ ≠ (.slice Ao13 t752.length co13:Value).ownBlock ∧ (some k_ ≠ (.slice Ao14 t755.length co14:Value).ownBlock ∧ some k_ ≠ (.slice Ao58 x760002_1.length co58:Value).ownBlock))) (n:=x760003_1.length) (c:=co59) ?_).2.2; exact (by (with_reducible repeat (first | apply Kd.R_alloc | apply Kd.R_drewN | apply Kd.R_drew)); exact (Kd.R_mono (Kd.R_far (p:=⟨gb764,1,none⟩) (Kd.R_far (p:=⟨gb764,0,none⟩) (Kd.R_types HO_760003.out BK764.out (by decide)) (fun _ hk => hk.2) (.int .i64 t761)) (fun _ hk => hk.2) (.int .i64 t762)) (fun _ h_ => h_.1)))); (case side4 => exact (Kd.R_reads' HO_760003.out).2.1); rintro e w60 ⟨rfl,hb⟩; refine ⟨_,rfl,?_⟩; have n0_:=am_ (Kd.R_below (by (with_reducible repeat (first | apply Kd.R_alloc | apply Kd.R_drewN | apply Kd.R_drew)); exact (Kd.R_mono (Kd.R_far (p:=⟨gb764,1,none⟩) (Kd.R_far (p:=⟨gb764,0,none⟩) (Kd.R_types HO_759002.out BK764.out (by decide)) (fun _ hk => hk.2) (.int .i64 t761)) (fun _ hk => hk.2) (.int .i64 t762)) (fun _ h_ => h_.1))) hb); have n1_:=am_ (Kd.R_below (by (with_reducible repeat (first | apply Kd.R_alloc | apply Kd.R_drewN | apply Kd.R_drew)); exact (Kd.R_mono (Kd.R_far (p:=⟨gb764,1,none⟩) (Kd.R_far (p:=⟨gb764,0,none⟩) (Kd.R_types HO_759003.out BK764.out (by decide)) (fun _ hk => hk.2) (.int .i64 t761)) (fun _ hk => hk.2) (.int .i64 t762)) (fun _ h_ => h_.1))) hb); have n2_:=am_ (Kd.R_below (by (with_reducible repeat (first | apply Kd.R_alloc | apply Kd.R_drewN | apply Kd.R_drew)); exact (Kd.R_mono (Kd.R_far (p:=⟨gb764,1,none⟩) (Kd.R_far (p:=⟨gb764,0,none⟩) (Kd.R_types HO_760002.out BK764.out (by decide)) (fun _ hk => hk.2) (.int .i64 t761)) (fun _ hk => hk.2) (.int .i64 t762)) (fun _ h_ => h_.1))) hb); have n3_:=am_ (Kd.R_below (by (with_reducible repeat (first | apply Kd.R_alloc | apply Kd.R_drewN | apply Kd.R_drew)); exact (Kd.R_mono (Kd.R_far (p:=⟨gb764,1,none⟩) (Kd.R_far (p:=⟨gb764,0,none⟩) (Kd.R_types HO_760003.out BK764.out (by decide)) (fun _ hk => hk.2) (.int .i64 t761)) (fun _ hk => hk.2) (.int .i64 t762)) (fun _ h_ => h_.1))) hb); have n4_:=am_ (blk_below (g:=gb748) (o:=.cells #[.int .i64 x749000_1,.int .i64 x749001_1] 84 (0,0)) (bf2_ NB748_764.out NB748_764.out BK748.out) hb); have n5_:=am_ (blk_below (g:=gb749) (o:=.cells #[.int .i64 x750000_1,.int .i64 x750001_1,.slice none 0 0,.slice none 0 0] 36 (0,0)) (bf2_ NB749_764.out NB749_764.out BK749.out) hb); have n6_:=am_ (blk_below (g:=gb758) (o:=.cells #[.int .i64 t750,.int .i64 t751,.slice Ao13 t752.length co13,.slice Ao14 t755.length co14] 36 (0,0)) (bf2_ NB758_764.out NB758_764.out BK758.out) hb); have n7_:=am_ (blk_below (g:=gb759) (o:=.cells #[.int .i64 x760000_1,.int .i64 x760001_1,.slice Ao58 x760002_1.length co58,.slice Ao59 x760003_1.length co59] 36 (0,0)) (bf2_ NB759_764.out NB759_764.out BK759.out) hb); have n8_:=am_ (blk_below (g:=gb764) (o:=.cells #[.int .i64 t761,.int .i64 t762] 84 (0,0)) (by (with_reducible repeat (first | refine blk_drewN ?_ _ | refine blk_drew ?_ | refine blk_alloc ?_ _)); refine blk_put (cs:=#[.int .i64 t761,.int .i64 0]) ?_ 1 _ rfl; (with_reducible repeat (first | refine blk_drewN ?_ _ | refine blk_drew ?_ | refine blk_alloc ?_ _)); refine blk_put (cs:=#[.int .i64 0,.int .i64 0]) ?_ 0 _ rfl; (with_reducible repeat (first | refine blk_drewN ?_ _ | refine blk_drew ?_ | refine blk_alloc ?_ _)); exact BK764.out) hb); have n9_:=am_ (below_step (bl5_ HB.out GE748.out GE749.out GE758.out GE759.out GE764.out) hb); clear HO_759002; clear HO_759003; clear HO_760002; clear HO_760003; clear BK748; clear BK749; clear BK758; clear BK759; clear BK764; clear HB; have HO_759002:=n0_; have HO_759003:=n1_; have HO_760002:=n2_; have HO_760003:=n3_; have BK748:=n4_; have BK749:=n5_; have BK758:=n6_; have BK759:=n7_; have BK764:=n8_; have HB:=n9_; clear n0_ n1_ n2_ n3_ n4_ n5_ n6_ n7_ n8_ n9_; (try clear hb); (try clear hb2); (try clear hk); (try clear hi)) | ((with_reducible refine gate_dst (N:=17) rfl ?_); refine boxE_ (N:=17) (cs:=#[.int .i64 0,.int .i64 0]) (t:=84) ?_; intro gb768 hg w61 hbox hb; have n0_:=am_ (Kd.R_below (kr_ HO_759002.out) hb); have n1_:=am_ (Kd.R_below (kr_ HO_759003.out) hb); have n2_:=am_ (Kd.R_below (kr_ HO_760002.out) hb); have n3_:=am_ (Kd.R_below (kr_ HO_760003.out) hb); have n4_:=am_ (bb_ BK748.out hb); have n5_:=am_ (bb_ BK749.out hb); have n6_:=am_ (bb_ BK758.out hb); have n7_:=am_ (bb_ BK759.out hb); have n8_:=am_ (bb_ BK764.out hb); have n9_:=am_ (below_step (bl5_ HB.out GE748.out GE749.out GE758.out GE759.out GE764.out) hb); have n10_:=am_ (hbox); have n11_:=am_ ((bs5_ hg HB.out GE748.out GE749.out GE758.out GE759.out GE764.out:w.heap.size ≤ gb768)); have n12_:=am_ ((bs5_ hg HB.out GE748.out GE749.out GE758.out GE759.out GE764.out:w.heap.size ≤ gb768)); have n13_:=am_ ((nl_ hg BK748.out:gb748 ≠ gb768)); have n14_:=am_ ((ng_ hg BK748.out:gb768 ≠ gb748)); have n15_:=am_ ((nl_ hg BK749.out:gb749 ≠ gb768)); have n16_:=am_ ((ng_ hg BK749.out:gb768 ≠ gb749)); have n17_:=am_ ((nl_ hg BK758.out:gb758 ≠ gb768)); have n18_:=am_ ((ng_ hg BK758.out:gb768 ≠ gb758)); have n19_:=am_ ((nl_ hg BK759.out:gb759 ≠ gb768)); have n20_:=am_ ((ng_ hg BK759.out:gb768 ≠ gb759)); have n21_:=am_ ((nl_ hg BK764.out:gb764 ≠ gb768)); have n22_:=am_ ((ng_ hg BK764.out:gb768 ≠ gb764)); clear HO_759002; clear HO_759003; clear HO_760002; clear HO_760003; clear BK748; clear BK749; clear BK758; clear BK759; clear BK764; clear HB; have HO_759002:=n0_; have HO_759003:=n1_; have HO_760002:=n2_; have HO_760003:=n3_; have BK748:=n4_; have BK749:=n5_; have BK758:=n6_; have BK759:=n7_; have BK764:=n8_; have HB:=n9_; have BK768:=n10_; have GW768:=n11_; have GE768:=n12_; have NB748_768:=n13_; have NB768_748:=n14_; have NB749_768:=n15_; have NB768_749:=n16_; have NB758_768:=n17_; have NB768_758:=n18_; have NB759_768:=n19_; have NB768_759:=n20_; have NB764_768:=n21_; have NB768_764:=n22_; clear n0_ n1_ n2_ n3_ n4_ n5_ n6_ n7_ n8_ n9_ n10_ n11_ n12_ n13_ n14_ n15_ n16_ n17_ n18_ n19_ n20_ n21_ n22_; clear hb hbox hg; have hnb62:=NB768_748.out; have hnc62:=NB748_768.out; have hnb63:=NB768_749.out; have hnc63:=NB749_768.out; have hnb64:=NB768_758.out; have hnc64:=NB758_768.out; have hnb65:=NB768_759.out; have hnc65:=NB759_768.out; have hnb66:=NB768_764.out; have hnc66:=NB764_768.out; have hcz67_0:w61.cell? ⟨gb768,0,none⟩ = some (.int .i64 0):=(bc_ BK768.out 0).trans rfl; have hcz67_1:w61.cell? ⟨gb768,1,none⟩ = some (.int .i64 0):=(bc_ BK768.out 1).trans rfl; have hfz67_0:=bz_ BK768.out 0; have hfz67_1:=bz_ BK768.out 1; have hcz68_0:w61.cell? ⟨gb749,0,none⟩ = some (.int .i64 x750000_1):=(bc_ BK749.out 0).trans rfl; have hcz68_1:w61.cell? ⟨gb749,1,none⟩ = some (.int .i64 x750001_1):=(bc_ BK749.out 1).trans rfl; have hcz68_2:w61.cell? ⟨gb749,2,none⟩ = some (.slice none 0 0):=(bc_ BK749.out 2).trans rfl; have hcz68_3:w61.cell? ⟨gb749,3,none⟩ = some (.slice none 0 0):=(bc_ BK749.out 3).trans rfl; have hfz68_0:=bz_ BK749.out 0; have hfz68_1:=bz_ BK749.out 1; have hfz68_2:=bz_ BK749.out 2; have hfz68_3:=bz_ BK749.out 3))
          refine bodyPost_ret (results_ct rfl _ _ gb749 36 #[.int .i64 0,.int .i64 0,.slice none 0 0,.slice none 0 0] (0,0) _ rfl (by (with_reducible repeat (first | refine blk_drewN ?_ _ | refine blk_drew ?_ | refine blk_alloc ?_ _)); refine blk_put (cs:=#[.int .i64 0,.int .i64 0,.slice none 0 0,.slice none 0 0]) ?_ 3 _ rfl; (with_reducible repeat (first | refine blk_drewN ?_ _ | refine blk_drew ?_ | refine blk_alloc ?_ _)); refine blk_put (cs:=#[.int .i64 0,.int .i64 0,.slice none 0 0,.slice none 0 0]) ?_ 2 _ rfl; (with_reducible repeat (first | refine blk_drewN ?_ _ | refine blk_drew ?_ | refine blk_alloc ?_ _)); refine blk_put (cs:=#[.int .i64 0,.int .i64 x750001_1,.slice none 0 0,.slice none 0 0]) ?_ 1 _ rfl; (with_reducible repeat (first | refine blk_drewN ?_ _ | refine blk_drew ?_ | refine blk_alloc ?_ _)); refine blk_put (cs:=#[.int .i64 x750000_1,.int .i64 x750001_1,.slice none 0 0,.slice none 0 0]) ?_ 0 _ rfl; (with_reducible repeat (first | refine blk_drewN ?_ _ | refine blk_drew ?_ | refine blk_alloc ?_ _)); refine blk_far ?_ NB749_768.out _; (with_reducible repeat (first | refine blk_drewN ?_ _ | refine blk_drew ?_ | refine blk_alloc ?_ _)); refine blk_far ?_ NB749_768.out _; (with_reducible repeat (first | refine blk_drewN ?_ _ | refine blk_drew ?_ | refine blk_alloc ?_ _)); exact BK749.out) Tryd.underlying36 rfl (by kernel_rfl)) rfl ?_
          exact ⟨_,_,er_,by first | exact Kd.R_nil _ _ _ _ _ | exact Kd.N_nil _ _ _ _ _ | exact Kd.V_nil _ _ _ _ _ | exact Kd.Q_nil _ _ _ _ _ | exact Kd.S_nil _ _ _ _ _,by first | exact Kd.R_nil _ _ _ _ _ | exact Kd.N_nil _ _ _ _ _ | exact Kd.V_nil _ _ _ _ _ | exact Kd.Q_nil _ _ _ _ _ | exact Kd.S_nil _ _ _ _ _,bl6_ HB.out GE748.out GE749.out GE758.out GE759.out GE764.out GE768.out⟩
         ·replace c40:=Bool.eq_false_iff.mpr c40
          subst c40
          have H1:((spec_fiMissing.f k2 x760000_1 x760001_1 x760002_1 x760003_1).bind fun bt769 => ((spec_liEdge.f k2 t750 t751 t752 t755 x749000_1 x749001_1 x13_2).bind fun bt777 => ((spec_fiLess.f k2 bt769.1 bt769.2.1 bt769.2.2.1 bt769.2.2.2 bt777.1 bt777.2.1 bt777.2.2.1 bt777.2.2.2).bind fun bt785 => ((spec_fiMissing.f k2 bt785.1 bt785.2.1 bt785.2.2.1 bt785.2.2.2).bind fun bt793 => (spec_liDraw.l0 k2 a3 (wrap64 (x12_1 + 1)) t761 t762 t750 t751 t752 t755 bt793.1 bt793.2.1 bt793.2.2.1 bt793.2.2.2))))) = some (r1,r2,r3,r4,r5):=by rw [if_neg (show ¬ (false = true) by decide)] at H; exact H
          clear H
          have H:=H1
          clear H1
          replace H:=bi_ H
          obtain ⟨⟨t769,t770,t771,t774⟩,A690,H⟩:=H
          replace H:((spec_liEdge.f k2 t750 t751 t752 t755 x749000_1 x749001_1 x13_2).bind fun bt777 => ((spec_fiLess.f k2 t769 t770 t771 t774 bt777.1 bt777.2.1 bt777.2.2.1 bt777.2.2.2).bind fun bt785 => ((spec_fiMissing.f k2 bt785.1 bt785.2.1 bt785.2.2.1 bt785.2.2.2).bind fun bt793 => (spec_liDraw.l0 k2 a3 (wrap64 (x12_1 + 1)) t761 t762 t750 t751 t752 t755 bt793.1 bt793.2.1 bt793.2.2.1 bt793.2.2.2)))) = some (r1,r2,r3,r4,r5):=H
          have A69:=am_ A690
          clear A690
          replace H:=bi_ H
          obtain ⟨⟨t777,t778,t779,t782⟩,A700,H⟩:=H
          replace H:((spec_fiLess.f k2 t769 t770 t771 t774 t777 t778 t779 t782).bind fun bt785 => ((spec_fiMissing.f k2 bt785.1 bt785.2.1 bt785.2.2.1 bt785.2.2.2).bind fun bt793 => (spec_liDraw.l0 k2 a3 (wrap64 (x12_1 + 1)) t761 t762 t750 t751 t752 t755 bt793.1 bt793.2.1 bt793.2.2.1 bt793.2.2.2))) = some (r1,r2,r3,r4,r5):=H
          have A70:=am_ A700
          clear A700
          replace H:=bi_ H
          obtain ⟨⟨t785,t786,t787,t790⟩,A710,H⟩:=H
          replace H:((spec_fiMissing.f k2 t785 t786 t787 t790).bind fun bt793 => (spec_liDraw.l0 k2 a3 (wrap64 (x12_1 + 1)) t761 t762 t750 t751 t752 t755 bt793.1 bt793.2.1 bt793.2.2.1 bt793.2.2.2)) = some (r1,r2,r3,r4,r5):=H
          have A71:=am_ A710
          clear A710
          replace H:=bi_ H
          obtain ⟨⟨t793,t794,t795,t798⟩,A720,H⟩:=H
          replace H:(spec_liDraw.l0 k2 a3 (wrap64 (x12_1 + 1)) t761 t762 t750 t751 t752 t755 t793 t794 t795 t798) = some (r1,r2,r3,r4,r5):=H
          have A72:=am_ A720
          clear A720
          have H':=am_ H
          clear H
          have hnb73:=NB758_748.out
          have hnc73:=NB748_758.out
          have hnb74:=NB758_749.out
          have hnc74:=NB749_758.out
          have hnb75:=NB758_759.out
          have hnc75:=NB759_758.out
          have hcz76_0:wr.cell? ⟨gb758,0,none⟩ = some (.int .i64 t750):=(bc_ BK758.out 0).trans rfl
          have hcz76_1:wr.cell? ⟨gb758,1,none⟩ = some (.int .i64 t751):=(bc_ BK758.out 1).trans rfl
          have hcz76_2:wr.cell? ⟨gb758,2,none⟩ = some (.slice Ao13 t752.length co13):=(bc_ BK758.out 2).trans rfl
          have hcz76_3:wr.cell? ⟨gb758,3,none⟩ = some (.slice Ao14 t755.length co14):=(bc_ BK758.out 3).trans rfl
          have hfz76_0:=bz_ BK758.out 0
          have hfz76_1:=bz_ BK758.out 1
          have hfz76_2:=bz_ BK758.out 2
          have hfz76_3:=bz_ BK758.out 3
          have hnb77:=NB748_749.out
          have hnc77:=NB749_748.out
          have hnb78:=NB748_759.out
          have hnc78:=NB759_748.out
          have hcz79_0:wr.cell? ⟨gb748,0,none⟩ = some (.int .i64 x749000_1):=(bc_ BK748.out 0).trans rfl
          have hcz79_1:wr.cell? ⟨gb748,1,none⟩ = some (.int .i64 x749001_1):=(bc_ BK748.out 1).trans rfl
          have hfz79_0:=bz_ BK748.out 0
          have hfz79_1:=bz_ BK748.out 1
          try go_wp2_with (first | ((with_reducible refine gate_callee (f:=113) rfl ?_); refine goesL_ (some 50) rfl rfl Tryd.func113 (by kernel_rfl) rfl #[.agg #[.int .i64 t750,.int .i64 t751,.slice Ao13 t752.length co13,.slice Ao14 t755.length co14],.agg #[.int .i64 x749000_1,.int .i64 x749001_1],.int .i64 x13_2] rfl ob_ ?_; (with_reducible refine (spec_liNext.calls k2 t750 t751 _ _ t752 _ _ t755 x749000_1 x749001_1 x13_2 t761 t762 true _ ?side1 ?side2 ?side3 ?side4 A37.out).mono ?_); (case side1 => repeat (first | exact (Kd.R_reads' HO_759002.out).2.2 | (with_reducible refine Kd.C_alloc ?_ _) | (with_reducible refine Kd.C_drewN ?_ _) | (with_reducible refine Kd.C_drew ?_))); (case side2 => exact (Kd.R_reads' HO_759002.out).2.1); (case side3 => repeat (first | exact (Kd.R_reads' HO_759003.out).2.2 | (with_reducible refine Kd.C_alloc ?_ _) | (with_reducible refine Kd.C_drewN ?_ _) | (with_reducible refine Kd.C_drew ?_))); (case side4 => exact (Kd.R_reads' HO_759003.out).2.1); rintro e w80 ⟨rfl,hb⟩; refine ⟨_,rfl,?_⟩; have n0_:=am_ (Kd.R_below (kr_ HO_759002.out) hb); have n1_:=am_ (Kd.R_below (kr_ HO_759003.out) hb); have n2_:=am_ (Kd.R_below (kr_ HO_760002.out) hb); have n3_:=am_ (Kd.R_below (kr_ HO_760003.out) hb); have n4_:=am_ (bb_ BK748.out hb); have n5_:=am_ (bb_ BK749.out hb); have n6_:=am_ (bb_ BK758.out hb); have n7_:=am_ (bb_ BK759.out hb); have n8_:=am_ (below_step (bl4_ HB.out GE748.out GE749.out GE758.out GE759.out) hb); clear HO_759002; clear HO_759003; clear HO_760002; clear HO_760003; clear BK748; clear BK749; clear BK758; clear BK759; clear HB; have HO_759002:=n0_; have HO_759003:=n1_; have HO_760002:=n2_; have HO_760003:=n3_; have BK748:=n4_; have BK749:=n5_; have BK758:=n6_; have BK759:=n7_; have HB:=n8_; clear n0_ n1_ n2_ n3_ n4_ n5_ n6_ n7_ n8_; (try clear hb); (try clear hb2); (try clear hk); (try clear hi)) | ((with_reducible refine gate_dst (N:=15) rfl ?_); refine boxE_ (N:=15) (cs:=#[.int .i64 0,.int .i64 0]) (t:=84) ?_; intro gb764 hg w81 hbox hb; have n0_:=am_ (Kd.R_below (kr_ HO_759002.out) hb); have n1_:=am_ (Kd.R_below (kr_ HO_759003.out) hb); have n2_:=am_ (Kd.R_below (kr_ HO_760002.out) hb); have n3_:=am_ (Kd.R_below (kr_ HO_760003.out) hb); have n4_:=am_ (bb_ BK748.out hb); have n5_:=am_ (bb_ BK749.out hb); have n6_:=am_ (bb_ BK758.out hb); have n7_:=am_ (bb_ BK759.out hb); have n8_:=am_ (below_step (bl4_ HB.out GE748.out GE749.out GE758.out GE759.out) hb); have n9_:=am_ (hbox); have n10_:=am_ ((bs4_ hg HB.out GE748.out GE749.out GE758.out GE759.out:w.heap.size ≤ gb764)); have n11_:=am_ ((bs4_ hg HB.out GE748.out GE749.out GE758.out GE759.out:w.heap.size ≤ gb764)); have n12_:=am_ ((nl_ hg BK748.out:gb748 ≠ gb764)); have n13_:=am_ ((ng_ hg BK748.out:gb764 ≠ gb748)); have n14_:=am_ ((nl_ hg BK749.out:gb749 ≠ gb764)); have n15_:=am_ ((ng_ hg BK749.out:gb764 ≠ gb749)); have n16_:=am_ ((nl_ hg BK758.out:gb758 ≠ gb764)); have n17_:=am_ ((ng_ hg BK758.out:gb764 ≠ gb758)); have n18_:=am_ ((nl_ hg BK759.out:gb759 ≠ gb764)); have n19_:=am_ ((ng_ hg BK759.out:gb764 ≠ gb759)); clear HO_759002; clear HO_759003; clear HO_760002; clear HO_760003; clear BK748; clear BK749; clear BK758; clear BK759; clear HB; have HO_759002:=n0_; have HO_759003:=n1_; have HO_760002:=n2_; have HO_760003:=n3_; have BK748:=n4_; have BK749:=n5_; have BK758:=n6_; have BK759:=n7_; have HB:=n8_; have BK764:=n9_; have GW764:=n10_; have GE764:=n11_; have NB748_764:=n12_; have NB764_748:=n13_; have NB749_764:=n14_; have NB764_749:=n15_; have NB758_764:=n16_; have NB764_758:=n17_; have NB759_764:=n18_; have NB764_759:=n19_; clear n0_ n1_ n2_ n3_ n4_ n5_ n6_ n7_ n8_ n9_ n10_ n11_ n12_ n13_ n14_ n15_ n16_ n17_ n18_ n19_; clear hb hbox hg; have hnb82:=NB764_748.out; have hnc82:=NB748_764.out; have hnb83:=NB764_749.out; have hnc83:=NB749_764.out; have hnb84:=NB764_758.out; have hnc84:=NB758_764.out; have hnb85:=NB764_759.out; have hnc85:=NB759_764.out; have hcz86_0:w81.cell? ⟨gb764,0,none⟩ = some (.int .i64 0):=(bc_ BK764.out 0).trans rfl; have hcz86_1:w81.cell? ⟨gb764,1,none⟩ = some (.int .i64 0):=(bc_ BK764.out 1).trans rfl; have hfz86_0:=bz_ BK764.out 0; have hfz86_1:=bz_ BK764.out 1; have hnb87:=NB759_749.out; have hnc87:=NB749_759.out; have hcz88_0:w81.cell? ⟨gb759,0,none⟩ = some (.int .i64 x760000_1):=(bc_ BK759.out 0).trans rfl; have hcz88_1:w81.cell? ⟨gb759,1,none⟩ = some (.int .i64 x760001_1):=(bc_ BK759.out 1).trans rfl; have hcz88_2:w81.cell? ⟨gb759,2,none⟩ = some (u760002):=(bc_ BK759.out 2).trans rfl; have hcz88_3:w81.cell? ⟨gb759,3,none⟩ = some (u760003):=(bc_ BK759.out 3).trans rfl; have hfz88_0:=bz_ BK759.out 0; have hfz88_1:=bz_ BK759.out 1; have hfz88_2:=bz_ BK759.out 2; have hfz88_3:=bz_ BK759.out 3; have hcz89_0:w81.cell? ⟨gb748,0,none⟩ = some (.int .i64 x749000_1):=(bc_ BK748.out 0).trans rfl; have hcz89_1:w81.cell? ⟨gb748,1,none⟩ = some (.int .i64 x749001_1):=(bc_ BK748.out 1).trans rfl; have hfz89_0:=bz_ BK748.out 0; have hfz89_1:=bz_ BK748.out 1; obtain ⟨Ao90,co90,eo90⟩:=Kd.R_slice HO_760002.out; subst eo90; obtain ⟨Ao91,co91,eo91⟩:=Kd.R_slice HO_760003.out; subst eo91) | ((with_reducible refine gate_callee (f:=113) rfl ?_); refine goesL_ (some 60) rfl rfl Tryd.func113 (by kernel_rfl) rfl #[.agg #[.int .i64 x760000_1,.int .i64 x760001_1,.slice Ao90 x760002_1.length co90,.slice Ao91 x760003_1.length co91],.agg #[.int .i64 x749000_1,.int .i64 x749001_1],.int .i64 x13_2] rfl ob_ ?_; (with_reducible refine (spec_liNext.calls k2 x760000_1 x760001_1 _ _ x760002_1 _ _ x760003_1 x749000_1 x749001_1 x13_2 t765 t766 false _ ?side1 ?side2 ?side3 ?side4 A39.out).mono ?_); (case side1 => refine (Kd.R_reads' (e:=3) (base:=w.heap.size) (ok:=fun k_ => (some k_ ≠ (.slice Ao13 t752.length co13:Value).ownBlock ∧ (some k_ ≠ (.slice Ao14 t755.length co14:Value).ownBlock ∧ some k_ ≠ (.slice Ao91 x760003_1.length co91:Value).ownBlock))) (n:=x760002_1.length) (c:=co90) ?_).2.2; exact (by (with_reducible repeat (first | apply Kd.R_alloc | apply Kd.R_drewN | apply Kd.R_drew)); exact (Kd.R_mono (Kd.R_far (p:=⟨gb764,1,none⟩) (Kd.R_far (p:=⟨gb764,0,none⟩) (Kd.R_types HO_760002.out BK764.out (by decide)) (fun _ hk => hk.2) (.int .i64 t761)) (fun _ hk => hk.2) (.int .i64 t762)) (fun _ h_ => h_.1)))); (case side2 => exact (Kd.R_reads' HO_760002.out).2.1); (case side3 => refine (Kd.R_reads' (e:=3) (base:=w.heap.size) (ok:=fun k_ => (some k_ ≠ (.slice Ao13 t752.length co13:Value).ownBlock ∧ (some k_ ≠ (.slice Ao14 t755.length co14:Value).ownBlock ∧ some k_ ≠ (.slice Ao90 x760002_1.length co90:Value).ownBlock))) (n:=x760003_1.length) (c:=co91) ?_).2.2; exact (by (with_reducible repeat (first | apply Kd.R_alloc | apply Kd.R_drewN | apply Kd.R_drew)); exact (Kd.R_mono (Kd.R_far (p:=⟨gb764,1,none⟩) (Kd.R_far (p:=⟨gb764,0,none⟩) (Kd.R_types HO_760003.out BK764.out (by decide)) (fun _ hk => hk.2) (.int .i64 t761)) (fun _ hk => hk.2) (.int .i64 t762)) (fun _ h_ => h_.1)))); (case side4 => exact (Kd.R_reads' HO_760003.out).2.1); rintro e w92 ⟨rfl,hb⟩; refine ⟨_,rfl,?_⟩; have n0_:=am_ (Kd.R_below (by (with_reducible repeat (first | apply Kd.R_alloc | apply Kd.R_drewN | apply Kd.R_drew)); exact (Kd.R_mono (Kd.R_far (p:=⟨gb764,1,none⟩) (Kd.R_far (p:=⟨gb764,0,none⟩) (Kd.R_types HO_759002.out BK764.out (by decide)) (fun _ hk => hk.2) (.int .i64 t761)) (fun _ hk => hk.2) (.int .i64 t762)) (fun _ h_ => h_.1))) hb); have n1_:=am_ (Kd.R_below (by (with_reducible repeat (first | apply Kd.R_alloc | apply Kd.R_drewN | apply Kd.R_drew)); exact (Kd.R_mono (Kd.R_far (p:=⟨gb764,1,none⟩) (Kd.R_far (p:=⟨gb764,0,none⟩) (Kd.R_types HO_759003.out BK764.out (by decide)) (fun _ hk => hk.2) (.int .i64 t761)) (fun _ hk => hk.2) (.int .i64 t762)) (fun _ h_ => h_.1))) hb); have n2_:=am_ (Kd.R_below (by (with_reducible repeat (first | apply Kd.R_alloc | apply Kd.R_drewN | apply Kd.R_drew)); exact (Kd.R_mono (Kd.R_far (p:=⟨gb764,1,none⟩) (Kd.R_far (p:=⟨gb764,0,none⟩) (Kd.R_types HO_760002.out BK764.out (by decide)) (fun _ hk => hk.2) (.int .i64 t761)) (fun _ hk => hk.2) (.int .i64 t762)) (fun _ h_ => h_.1))) hb); have n3_:=am_ (Kd.R_below (by (with_reducible repeat (first | apply Kd.R_alloc | apply Kd.R_drewN | apply Kd.R_drew)); exact (Kd.R_mono (Kd.R_far (p:=⟨gb764,1,none⟩) (Kd.R_far (p:=⟨gb764,0,none⟩) (Kd.R_types HO_760003.out BK764.out (by decide)) (fun _ hk => hk.2) (.int .i64 t761)) (fun _ hk => hk.2) (.int .i64 t762)) (fun _ h_ => h_.1))) hb); have n4_:=am_ (blk_below (g:=gb748) (o:=.cells #[.int .i64 x749000_1,.int .i64 x749001_1] 84 (0,0)) (bf2_ NB748_764.out NB748_764.out BK748.out) hb); have n5_:=am_ (blk_below (g:=gb749) (o:=.cells #[.int .i64 x750000_1,.int .i64 x750001_1,.slice none 0 0,.slice none 0 0] 36 (0,0)) (bf2_ NB749_764.out NB749_764.out BK749.out) hb); have n6_:=am_ (blk_below (g:=gb758) (o:=.cells #[.int .i64 t750,.int .i64 t751,.slice Ao13 t752.length co13,.slice Ao14 t755.length co14] 36 (0,0)) (bf2_ NB758_764.out NB758_764.out BK758.out) hb); have n7_:=am_ (blk_below (g:=gb759) (o:=.cells #[.int .i64 x760000_1,.int .i64 x760001_1,.slice Ao90 x760002_1.length co90,.slice Ao91 x760003_1.length co91] 36 (0,0)) (bf2_ NB759_764.out NB759_764.out BK759.out) hb); have n8_:=am_ (blk_below (g:=gb764) (o:=.cells #[.int .i64 t761,.int .i64 t762] 84 (0,0)) (by (with_reducible repeat (first | refine blk_drewN ?_ _ | refine blk_drew ?_ | refine blk_alloc ?_ _)); refine blk_put (cs:=#[.int .i64 t761,.int .i64 0]) ?_ 1 _ rfl; (with_reducible repeat (first | refine blk_drewN ?_ _ | refine blk_drew ?_ | refine blk_alloc ?_ _)); refine blk_put (cs:=#[.int .i64 0,.int .i64 0]) ?_ 0 _ rfl; (with_reducible repeat (first | refine blk_drewN ?_ _ | refine blk_drew ?_ | refine blk_alloc ?_ _)); exact BK764.out) hb); have n9_:=am_ (below_step (bl5_ HB.out GE748.out GE749.out GE758.out GE759.out GE764.out) hb); clear HO_759002; clear HO_759003; clear HO_760002; clear HO_760003; clear BK748; clear BK749; clear BK758; clear BK759; clear BK764; clear HB; have HO_759002:=n0_; have HO_759003:=n1_; have HO_760002:=n2_; have HO_760003:=n3_; have BK748:=n4_; have BK749:=n5_; have BK758:=n6_; have BK759:=n7_; have BK764:=n8_; have HB:=n9_; clear n0_ n1_ n2_ n3_ n4_ n5_ n6_ n7_ n8_ n9_; (try clear hb); (try clear hb2); (try clear hk); (try clear hi)) | ((with_reducible refine gate_dst (N:=17) rfl ?_); refine boxE_ (N:=17) (cs:=#[.int .i64 0,.int .i64 0]) (t:=84) ?_; intro gb768 hg w93 hbox hb; have n0_:=am_ (Kd.R_below (kr_ HO_759002.out) hb); have n1_:=am_ (Kd.R_below (kr_ HO_759003.out) hb); have n2_:=am_ (Kd.R_below (kr_ HO_760002.out) hb); have n3_:=am_ (Kd.R_below (kr_ HO_760003.out) hb); have n4_:=am_ (bb_ BK748.out hb); have n5_:=am_ (bb_ BK749.out hb); have n6_:=am_ (bb_ BK758.out hb); have n7_:=am_ (bb_ BK759.out hb); have n8_:=am_ (bb_ BK764.out hb); have n9_:=am_ (below_step (bl5_ HB.out GE748.out GE749.out GE758.out GE759.out GE764.out) hb); have n10_:=am_ (hbox); have n11_:=am_ ((bs5_ hg HB.out GE748.out GE749.out GE758.out GE759.out GE764.out:w.heap.size ≤ gb768)); have n12_:=am_ ((bs5_ hg HB.out GE748.out GE749.out GE758.out GE759.out GE764.out:w.heap.size ≤ gb768)); have n13_:=am_ ((nl_ hg BK748.out:gb748 ≠ gb768)); have n14_:=am_ ((ng_ hg BK748.out:gb768 ≠ gb748)); have n15_:=am_ ((nl_ hg BK749.out:gb749 ≠ gb768)); have n16_:=am_ ((ng_ hg BK749.out:gb768 ≠ gb749)); have n17_:=am_ ((nl_ hg BK758.out:gb758 ≠ gb768)); have n18_:=am_ ((ng_ hg BK758.out:gb768 ≠ gb758)); have n19_:=am_ ((nl_ hg BK759.out:gb759 ≠ gb768)); have n20_:=am_ ((ng_ hg BK759.out:gb768 ≠ gb759)); have n21_:=am_ ((nl_ hg BK764.out:gb764 ≠ gb768)); have n22_:=am_ ((ng_ hg BK764.out:gb768 ≠ gb764)); clear HO_759002; clear HO_759003; clear HO_760002; clear HO_760003; clear BK748; clear BK749; clear BK758; clear BK759; clear BK764; clear HB; have HO_759002:=n0_; have HO_759003:=n1_; have HO_760002:=n2_; have HO_760003:=n3_; have BK748:=n4_; have BK749:=n5_; have BK758:=n6_; have BK759:=n7_; have BK764:=n8_; have HB:=n9_; have BK768:=n10_; have GW768:=n11_; have GE768:=n12_; have NB748_768:=n13_; have NB768_748:=n14_; have NB749_768:=n15_; have NB768_749:=n16_; have NB758_768:=n17_; have NB768_758:=n18_; have NB759_768:=n19_; have NB768_759:=n20_; have NB764_768:=n21_; have NB768_764:=n22_; clear n0_ n1_ n2_ n3_ n4_ n5_ n6_ n7_ n8_ n9_ n10_ n11_ n12_ n13_ n14_ n15_ n16_ n17_ n18_ n19_ n20_ n21_ n22_; clear hb hbox hg; have hnb94:=NB768_748.out; have hnc94:=NB748_768.out; have hnb95:=NB768_749.out; have hnc95:=NB749_768.out; have hnb96:=NB768_758.out; have hnc96:=NB758_768.out; have hnb97:=NB768_759.out; have hnc97:=NB759_768.out; have hnb98:=NB768_764.out; have hnc98:=NB764_768.out; have hcz99_0:w93.cell? ⟨gb768,0,none⟩ = some (.int .i64 0):=(bc_ BK768.out 0).trans rfl; have hcz99_1:w93.cell? ⟨gb768,1,none⟩ = some (.int .i64 0):=(bc_ BK768.out 1).trans rfl; have hfz99_0:=bz_ BK768.out 0; have hfz99_1:=bz_ BK768.out 1))
          have n0_:Aside0 (Kd.R (Kd.int .i64) 3 ((w93.setCell ⟨gb768,0,none⟩ (.int .i64 t765)).setCell ⟨gb768,1,none⟩ (.int .i64 t766)) w.heap.size (fun k_ => some k_ ≠ (.slice Ao14 t755.length co14:Value).ownBlock ∧ some k_ ≠ (.slice Ao90 x760002_1.length co90:Value).ownBlock ∧ some k_ ≠ (.slice Ao91 x760003_1.length co91:Value).ownBlock) (.slice Ao13 t752.length co13) t752):=⟨by (with_reducible repeat (first | apply Kd.R_alloc | apply Kd.R_drewN | apply Kd.R_drew)); exact Kd.R_mono (Kd.R_far (p:=⟨gb768,1,none⟩) (Kd.R_far (p:=⟨gb768,0,none⟩) (Kd.R_types HO_759002.out BK768.out (by decide)) (fun _ hk => hk.2) (.int .i64 t765)) (fun _ hk => hk.2) (.int .i64 t766)) (fun _ hk => ⟨hk.1.1,⟨hk.1.2.1,hk.1.2.2⟩⟩)⟩
          have n1_:Aside0 (Kd.R (Kd.int .i64) 3 ((w93.setCell ⟨gb768,0,none⟩ (.int .i64 t765)).setCell ⟨gb768,1,none⟩ (.int .i64 t766)) w.heap.size (fun k_ => some k_ ≠ (.slice Ao13 t752.length co13:Value).ownBlock ∧ some k_ ≠ (.slice Ao90 x760002_1.length co90:Value).ownBlock ∧ some k_ ≠ (.slice Ao91 x760003_1.length co91:Value).ownBlock) (.slice Ao14 t755.length co14) t755):=⟨by (with_reducible repeat (first | apply Kd.R_alloc | apply Kd.R_drewN | apply Kd.R_drew)); exact Kd.R_mono (Kd.R_far (p:=⟨gb768,1,none⟩) (Kd.R_far (p:=⟨gb768,0,none⟩) (Kd.R_types HO_759003.out BK768.out (by decide)) (fun _ hk => hk.2) (.int .i64 t765)) (fun _ hk => hk.2) (.int .i64 t766)) (fun _ hk => ⟨hk.1.1,⟨hk.1.2.1,hk.1.2.2⟩⟩)⟩
          have n2_:Aside0 (Kd.R (Kd.int .i64) 3 ((w93.setCell ⟨gb768,0,none⟩ (.int .i64 t765)).setCell ⟨gb768,1,none⟩ (.int .i64 t766)) w.heap.size (fun k_ => some k_ ≠ (.slice Ao13 t752.length co13:Value).ownBlock ∧ some k_ ≠ (.slice Ao14 t755.length co14:Value).ownBlock ∧ some k_ ≠ (.slice Ao91 x760003_1.length co91:Value).ownBlock) (.slice Ao90 x760002_1.length co90) x760002_1):=⟨by (with_reducible repeat (first | apply Kd.R_alloc | apply Kd.R_drewN | apply Kd.R_drew)); exact Kd.R_mono (Kd.R_far (p:=⟨gb768,1,none⟩) (Kd.R_far (p:=⟨gb768,0,none⟩) (Kd.R_types HO_760002.out BK768.out (by decide)) (fun _ hk => hk.2) (.int .i64 t765)) (fun _ hk => hk.2) (.int .i64 t766)) (fun _ hk => ⟨hk.1.1,⟨hk.1.2.1,hk.1.2.2⟩⟩)⟩
          have n3_:Aside0 (Kd.R (Kd.int .i64) 3 ((w93.setCell ⟨gb768,0,none⟩ (.int .i64 t765)).setCell ⟨gb768,1,none⟩ (.int .i64 t766)) w.heap.size (fun k_ => some k_ ≠ (.slice Ao13 t752.length co13:Value).ownBlock ∧ some k_ ≠ (.slice Ao14 t755.length co14:Value).ownBlock ∧ some k_ ≠ (.slice Ao90 x760002_1.length co90:Value).ownBlock) (.slice Ao91 x760003_1.length co91) x760003_1):=⟨by (with_reducible repeat (first | apply Kd.R_alloc | apply Kd.R_drewN | apply Kd.R_drew)); exact Kd.R_mono (Kd.R_far (p:=⟨gb768,1,none⟩) (Kd.R_far (p:=⟨gb768,0,none⟩) (Kd.R_types HO_760003.out BK768.out (by decide)) (fun _ hk => hk.2) (.int .i64 t765)) (fun _ hk => hk.2) (.int .i64 t766)) (fun _ hk => ⟨hk.1.1,⟨hk.1.2.1,hk.1.2.2⟩⟩)⟩
          have n4_:Aside0 (((w93.setCell ⟨gb768,0,none⟩ (.int .i64 t765)).setCell ⟨gb768,1,none⟩ (.int .i64 t766)).heap[gb748]? = some (.cells #[.int .i64 x749000_1,.int .i64 x749001_1] 84 (0,0))):=⟨bf2_ NB748_768.out NB748_768.out BK748.out⟩
          have n5_:Aside0 (((w93.setCell ⟨gb768,0,none⟩ (.int .i64 t765)).setCell ⟨gb768,1,none⟩ (.int .i64 t766)).heap[gb749]? = some (.cells #[.int .i64 x750000_1,.int .i64 x750001_1,.slice none 0 0,.slice none 0 0] 36 (0,0))):=⟨bf2_ NB749_768.out NB749_768.out BK749.out⟩
          have n6_:Aside0 (((w93.setCell ⟨gb768,0,none⟩ (.int .i64 t765)).setCell ⟨gb768,1,none⟩ (.int .i64 t766)).heap[gb758]? = some (.cells #[.int .i64 t750,.int .i64 t751,.slice Ao13 t752.length co13,.slice Ao14 t755.length co14] 36 (0,0))):=⟨bf2_ NB758_768.out NB758_768.out BK758.out⟩
          have n7_:Aside0 (((w93.setCell ⟨gb768,0,none⟩ (.int .i64 t765)).setCell ⟨gb768,1,none⟩ (.int .i64 t766)).heap[gb759]? = some (.cells #[.int .i64 x760000_1,.int .i64 x760001_1,.slice Ao90 x760002_1.length co90,.slice Ao91 x760003_1.length co91] 36 (0,0))):=⟨bf2_ NB759_768.out NB759_768.out BK759.out⟩
          have n8_:Aside0 (((w93.setCell ⟨gb768,0,none⟩ (.int .i64 t765)).setCell ⟨gb768,1,none⟩ (.int .i64 t766)).heap[gb764]? = some (.cells #[.int .i64 t761,.int .i64 t762] 84 (0,0))):=⟨bf2_ NB764_768.out NB764_768.out BK764.out⟩
          have n9_:Aside0 (((w93.setCell ⟨gb768,0,none⟩ (.int .i64 t765)).setCell ⟨gb768,1,none⟩ (.int .i64 t766)).heap[gb768]? = some (.cells #[.int .i64 t765,.int .i64 t766] 84 (0,0))):=⟨by (with_reducible repeat (first | refine blk_drewN ?_ _ | refine blk_drew ?_ | refine blk_alloc ?_ _)); refine blk_put (cs:=#[.int .i64 t765,.int .i64 0]) ?_ 1 _ rfl; (with_reducible repeat (first | refine blk_drewN ?_ _ | refine blk_drew ?_ | refine blk_alloc ?_ _)); refine blk_put (cs:=#[.int .i64 0,.int .i64 0]) ?_ 0 _ rfl; (with_reducible repeat (first | refine blk_drewN ?_ _ | refine blk_drew ?_ | refine blk_alloc ?_ _)); exact BK768.out⟩
          have n10_:Aside0 (Below w.heap.size w ((w93.setCell ⟨gb768,0,none⟩ (.int .i64 t765)).setCell ⟨gb768,1,none⟩ (.int .i64 t766))):=⟨bl6_ HB.out GE748.out GE749.out GE758.out GE759.out GE764.out GE768.out⟩
          (try clear HO_759002)
          (try clear HO_759003)
          (try clear HO_760002)
          (try clear HO_760003)
          (try clear BK748)
          (try clear BK749)
          (try clear BK758)
          (try clear BK759)
          (try clear BK764)
          (try clear BK768)
          (try clear HB)
          generalize ((w93.setCell ⟨gb768,0,none⟩ (.int .i64 t765)).setCell ⟨gb768,1,none⟩ (.int .i64 t766)) = w100 at n0_ n1_ n2_ n3_ n4_ n5_ n6_ n7_ n8_ n9_ n10_ ⊢
          have HO_759002:=n0_
          have HO_759003:=n1_
          have HO_760002:=n2_
          have HO_760003:=n3_
          have BK748:=n4_
          have BK749:=n5_
          have BK758:=n6_
          have BK759:=n7_
          have BK764:=n8_
          have BK768:=n9_
          have HB:=n10_
          clear n0_ n1_ n2_ n3_ n4_ n5_ n6_ n7_ n8_ n9_ n10_
          have n0_:=am_ (Kd.R_drew HO_759002.out)
          have n1_:=am_ (Kd.R_drew HO_759003.out)
          have n2_:=am_ (Kd.R_drew HO_760002.out)
          have n3_:=am_ (Kd.R_drew HO_760003.out)
          have n4_:=am_ (blk_drew BK748.out)
          have n5_:=am_ (blk_drew BK749.out)
          have n6_:=am_ (blk_drew BK758.out)
          have n7_:=am_ (blk_drew BK759.out)
          have n8_:=am_ (blk_drew BK764.out)
          have n9_:=am_ (blk_drew BK768.out)
          have n10_:=am_ (below_drew1 HB.out)
          clear HO_759002
          clear HO_759003
          clear HO_760002
          clear HO_760003
          clear BK748
          clear BK749
          clear BK758
          clear BK759
          clear BK764
          clear BK768
          clear HB
          have HO_759002:=n0_
          have HO_759003:=n1_
          have HO_760002:=n2_
          have HO_760003:=n3_
          have BK748:=n4_
          have BK749:=n5_
          have BK758:=n6_
          have BK759:=n7_
          have BK764:=n8_
          have BK768:=n9_
          have HB:=n10_
          clear n0_ n1_ n2_ n3_ n4_ n5_ n6_ n7_ n8_ n9_ n10_
          refine start_ (n:=9) (S:=fun w' => w'.cell? ⟨gb759,0,none⟩ = some (.int .i64 x760000_1) ∧ w'.cell? ⟨gb759,1,none⟩ = some (.int .i64 x760001_1) ∧ w'.cell? ⟨gb759,2,none⟩ = some (.slice Ao90 x760002_1.length co90) ∧ w'.cell? ⟨gb759,3,none⟩ = some (.slice Ao91 x760003_1.length co91) ∧ w'.cell? ⟨gb758,0,none⟩ = some (.int .i64 t750) ∧ w'.cell? ⟨gb758,1,none⟩ = some (.int .i64 t751) ∧ w'.cell? ⟨gb758,2,none⟩ = some (.slice Ao13 t752.length co13) ∧ w'.cell? ⟨gb758,3,none⟩ = some (.slice Ao14 t755.length co14) ∧ w'.cell? ⟨gb748,0,none⟩ = some (.int .i64 x749000_1) ∧ w'.cell? ⟨gb748,1,none⟩ = some (.int .i64 x749001_1)) (ds:=[8]) #[Ff,Ff,Ff,Ff,Ff,Ff,Ff,Ff,Ff] (by kernel_rfl) rfl rfl ⟨(bc_ BK759.out 0).trans rfl,(bc_ BK759.out 1).trans rfl,(bc_ BK759.out 2).trans rfl,(bc_ BK759.out 3).trans rfl,(bc_ BK758.out 0).trans rfl,(bc_ BK758.out 1).trans rfl,(bc_ BK758.out 2).trans rfl,(bc_ BK758.out 3).trans rfl,(bc_ BK748.out 0).trans rfl,(bc_ BK748.out 1).trans rfl⟩ (fun hHeld => ?_); refine with_tabW spec_liDraw.tab20 spec_liDraw.bits20 (fun HT_ HW_ => ?_)
          generalize w100.drew = w101 at HO_759002 HO_759003 HO_760002 HO_760003 BK748 BK749 BK758 BK759 BK764 BK768 HB hHeld ⊢
          refine pZ (i:=4) (N:=some 69) #[Ff,Ff,Ff,Ff,Tt,Ff,Ff,Ff,Ff] ?_
          refine tZ (i:=0) (N:=some 65) #[Tt,Ff,Ff,Ff,Tt,Ff,Ff,Ff,Ff] ?_
          refine tZ (i:=2) (N:=some 67) #[Tt,Ff,Tt,Ff,Tt,Ff,Ff,Ff,Ff] ?_
          refine tZ (i:=3) (N:=some 68) #[Tt,Ff,Tt,Tt,Tt,Ff,Ff,Ff,Ff] ?_
          refine one_ (i:=1) (N:=some 66) #[Tt,Tt,Tt,Tt,Tt,Ff,Ff,Ff,Ff] rfl rfl (one_of HT_.out (by kernel_rfl)) (by decide) (fun K hK => ?_)
          refine goes_ Tryd.func114 (by kernel_rfl) rfl #[.agg #[.int .i64 x760000_1,.int .i64 x760001_1,.slice Ao90 x760002_1.length co90,.slice Ao91 x760003_1.length co91]] (by rfl) rfl rfl ob_ ?_
          with_reducible refine (spec_fiMissing.calls k2 x760000_1 x760001_1 _ _ x760002_1 _ _ x760003_1 t769 t770 t771 t774 _ ?side1 ?side2 ?side3 ?side4 A69.out).mono ?_
          (case side1 => repeat (first | exact (Kd.R_reads' HO_760002.out).2.2 | (with_reducible refine Kd.C_alloc ?_ _) | (with_reducible refine Kd.C_drewN ?_ _) | (with_reducible refine Kd.C_drew ?_)))
          (case side2 => exact (Kd.R_reads' HO_760002.out).2.1)
          (case side3 => repeat (first | exact (Kd.R_reads' HO_760003.out).2.2 | (with_reducible refine Kd.C_alloc ?_ _) | (with_reducible refine Kd.C_drewN ?_ _) | (with_reducible refine Kd.C_drew ?_)))
          (case side4 => exact (Kd.R_reads' HO_760003.out).2.1)
          rintro e w102 ⟨v772,v775,rfl,ho0,ho1,hb⟩
          refine ⟨_,rfl,?_⟩
          have n0_:=am_ (Kd.R_mono (Kd.R_told (Kd.R_told (Kd.R_old (kr_ HO_759002.out) hb) (Kd.R_base ho0)) (Kd.R_base ho1)) (fun _ h_ => h_.1))
          have n1_:=am_ (Kd.R_mono (Kd.R_told (Kd.R_told (Kd.R_old (kr_ HO_759003.out) hb) (Kd.R_base ho0)) (Kd.R_base ho1)) (fun _ h_ => h_.1))
          have n2_:=am_ (Kd.R_mono (Kd.R_told (Kd.R_told (Kd.R_old (kr_ HO_760002.out) hb) (Kd.R_base ho0)) (Kd.R_base ho1)) (fun _ h_ => h_.1))
          have n3_:=am_ (Kd.R_mono (Kd.R_told (Kd.R_told (Kd.R_old (kr_ HO_760003.out) hb) (Kd.R_base ho0)) (Kd.R_base ho1)) (fun _ h_ => h_.1))
          have n4_:=am_ (Kd.R_lower (Kd.R_new' (Kd.R_new' (Kd.R_new' (Kd.R_new' ho0 (Kd.R_lt (kr_ HO_759002.out))) (Kd.R_lt (kr_ HO_759003.out))) (Kd.R_lt (kr_ HO_760002.out))) (Kd.R_lt (kr_ HO_760003.out))) (below_size (bl6_ HB.out GE748.out GE749.out GE758.out GE759.out GE764.out GE768.out)))
          have n5_:=am_ (Kd.R_lower (Kd.R_new' (Kd.R_new' (Kd.R_new' (Kd.R_new' ho1 (Kd.R_lt (kr_ HO_759002.out))) (Kd.R_lt (kr_ HO_759003.out))) (Kd.R_lt (kr_ HO_760002.out))) (Kd.R_lt (kr_ HO_760003.out))) (below_size (bl6_ HB.out GE748.out GE749.out GE758.out GE759.out GE764.out GE768.out)))
          have n6_:=am_ (bb_ BK748.out hb)
          have n7_:=am_ (bb_ BK749.out hb)
          have n8_:=am_ (bb_ BK758.out hb)
          have n9_:=am_ (bb_ BK759.out hb)
          have n10_:=am_ (bb_ BK764.out hb)
          have n11_:=am_ (bb_ BK768.out hb)
          have n12_:=am_ (below_step (bl6_ HB.out GE748.out GE749.out GE758.out GE759.out GE764.out GE768.out) hb)
          clear HO_759002
          clear HO_759003
          clear HO_760002
          clear HO_760003
          clear BK748
          clear BK749
          clear BK758
          clear BK759
          clear BK764
          clear BK768
          clear HB
          have HO_759002:=n0_
          have HO_759003:=n1_
          have HO_760002:=n2_
          have HO_760003:=n3_
          have HO773:=n4_
          have HO776:=n5_
          have BK748:=n6_
          have BK749:=n7_
          have BK758:=n8_
          have BK759:=n9_
          have BK764:=n10_
          have BK768:=n11_
          have HB:=n12_
          clear n0_ n1_ n2_ n3_ n4_ n5_ n6_ n7_ n8_ n9_ n10_ n11_ n12_
          (try clear hb)
          (try clear hb2)
          (try clear hk)
          (try clear hi)
          (try clear ho0)
          (try clear ho1)
          refine hK.out _ _ ⟨(bc_ BK759.out 0).trans rfl,(bc_ BK759.out 1).trans rfl,(bc_ BK759.out 2).trans rfl,(bc_ BK759.out 3).trans rfl,(bc_ BK758.out 0).trans rfl,(bc_ BK758.out 1).trans rfl,(bc_ BK758.out 2).trans rfl,(bc_ BK758.out 3).trans rfl,(bc_ BK748.out 0).trans rfl,(bc_ BK748.out 1).trans rfl⟩ (fun hHeld => ?_)
          clear hK K
          refine norm_ (a':=_) ap_ ?_
          refine one_ (i:=5) (N:=some 70) #[Tt,Tt,Tt,Tt,Tt,Tt,Ff,Ff,Ff] rfl rfl (one_of HT_.out (by kernel_rfl)) (by decide) (fun K hK => ?_)
          refine goes_ Tryd.func116 (by kernel_rfl) rfl #[.agg #[.int .i64 t750,.int .i64 t751,.slice Ao13 t752.length co13,.slice Ao14 t755.length co14],.agg #[.int .i64 x749000_1,.int .i64 x749001_1],.int .i64 x13_2] (by rfl) rfl rfl ob_ ?_
          with_reducible refine (spec_liEdge.calls k2 t750 t751 _ _ t752 _ _ t755 x749000_1 x749001_1 x13_2 t777 t778 t779 t782 _ ?side1 ?side2 ?side3 ?side4 A70.out).mono ?_
          (case side1 => repeat (first | exact (Kd.R_reads' HO_759002.out).2.2 | (with_reducible refine Kd.C_alloc ?_ _) | (with_reducible refine Kd.C_drewN ?_ _) | (with_reducible refine Kd.C_drew ?_)))
          (case side2 => exact (Kd.R_reads' HO_759002.out).2.1)
          (case side3 => repeat (first | exact (Kd.R_reads' HO_759003.out).2.2 | (with_reducible refine Kd.C_alloc ?_ _) | (with_reducible refine Kd.C_drewN ?_ _) | (with_reducible refine Kd.C_drew ?_)))
          (case side4 => exact (Kd.R_reads' HO_759003.out).2.1)
          rintro e w103 ⟨v780,v783,rfl,ho0,ho1,hb⟩
          refine ⟨_,rfl,?_⟩
          have n0_:=am_ (Kd.R_mono (Kd.R_told (Kd.R_told (Kd.R_old (kr_ HO_759002.out) hb) (Kd.R_base ho0)) (Kd.R_base ho1)) (fun _ h_ => h_.1))
          have n1_:=am_ (Kd.R_mono (Kd.R_told (Kd.R_told (Kd.R_old (kr_ HO_759003.out) hb) (Kd.R_base ho0)) (Kd.R_base ho1)) (fun _ h_ => h_.1))
          have n2_:=am_ (Kd.R_mono (Kd.R_told (Kd.R_told (Kd.R_old (kr_ HO_760002.out) hb) (Kd.R_base ho0)) (Kd.R_base ho1)) (fun _ h_ => h_.1))
          have n3_:=am_ (Kd.R_mono (Kd.R_told (Kd.R_told (Kd.R_old (kr_ HO_760003.out) hb) (Kd.R_base ho0)) (Kd.R_base ho1)) (fun _ h_ => h_.1))
          have n4_:=am_ (Kd.R_mono (Kd.R_told (Kd.R_told (Kd.R_old (kr_ HO773.out) hb) (Kd.R_base ho0)) (Kd.R_base ho1)) (fun _ h_ => h_.1))
          have n5_:=am_ (Kd.R_mono (Kd.R_told (Kd.R_told (Kd.R_old (kr_ HO776.out) hb) (Kd.R_base ho0)) (Kd.R_base ho1)) (fun _ h_ => h_.1))
          have n6_:=am_ (Kd.R_lower (Kd.R_new' (Kd.R_new' (Kd.R_new' (Kd.R_new' (Kd.R_new' (Kd.R_new' ho0 (Kd.R_lt (kr_ HO_759002.out))) (Kd.R_lt (kr_ HO_759003.out))) (Kd.R_lt (kr_ HO_760002.out))) (Kd.R_lt (kr_ HO_760003.out))) (Kd.R_lt (kr_ HO773.out))) (Kd.R_lt (kr_ HO776.out))) (below_size (bl6_ HB.out GE748.out GE749.out GE758.out GE759.out GE764.out GE768.out)))
          have n7_:=am_ (Kd.R_lower (Kd.R_new' (Kd.R_new' (Kd.R_new' (Kd.R_new' (Kd.R_new' (Kd.R_new' ho1 (Kd.R_lt (kr_ HO_759002.out))) (Kd.R_lt (kr_ HO_759003.out))) (Kd.R_lt (kr_ HO_760002.out))) (Kd.R_lt (kr_ HO_760003.out))) (Kd.R_lt (kr_ HO773.out))) (Kd.R_lt (kr_ HO776.out))) (below_size (bl6_ HB.out GE748.out GE749.out GE758.out GE759.out GE764.out GE768.out)))
          have n8_:=am_ (bb_ BK748.out hb)
          have n9_:=am_ (bb_ BK749.out hb)
          have n10_:=am_ (bb_ BK758.out hb)
          have n11_:=am_ (bb_ BK759.out hb)
          have n12_:=am_ (bb_ BK764.out hb)
          have n13_:=am_ (bb_ BK768.out hb)
          have n14_:=am_ (below_step (bl6_ HB.out GE748.out GE749.out GE758.out GE759.out GE764.out GE768.out) hb)
          clear HO_759002
          clear HO_759003
          clear HO_760002
          clear HO_760003
          clear HO773
          clear HO776
          clear BK748
          clear BK749
          clear BK758
          clear BK759
          clear BK764
          clear BK768
          clear HB
          have HO_759002:=n0_
          have HO_759003:=n1_
          have HO_760002:=n2_
          have HO_760003:=n3_
          have HO773:=n4_
          have HO776:=n5_
          have HO781:=n6_
          have HO784:=n7_
          have BK748:=n8_
          have BK749:=n9_
          have BK758:=n10_
          have BK759:=n11_
          have BK764:=n12_
          have BK768:=n13_
          have HB:=n14_
          clear n0_ n1_ n2_ n3_ n4_ n5_ n6_ n7_ n8_ n9_ n10_ n11_ n12_ n13_ n14_
          (try clear hb)
          (try clear hb2)
          (try clear hk)
          (try clear hi)
          (try clear ho0)
          (try clear ho1)
          obtain ⟨Ao104,co104,eo104⟩:=Kd.R_slice HO773.out
          (first | subst eo104 | (injection eo104 with f1_ f2_ f3_; have f4_:=f1_.symm; have f5_:=f3_.symm; clear f1_ f2_ f3_; subst f4_; subst f5_))
          obtain ⟨Ao105,co105,eo105⟩:=Kd.R_slice HO776.out
          (first | subst eo105 | (injection eo105 with f1_ f2_ f3_; have f4_:=f1_.symm; have f5_:=f3_.symm; clear f1_ f2_ f3_; subst f4_; subst f5_))
          obtain ⟨Ao106,co106,eo106⟩:=Kd.R_slice HO781.out
          (first | subst eo106 | (injection eo106 with f1_ f2_ f3_; have f4_:=f1_.symm; have f5_:=f3_.symm; clear f1_ f2_ f3_; subst f4_; subst f5_))
          obtain ⟨Ao107,co107,eo107⟩:=Kd.R_slice HO784.out
          (first | subst eo107 | (injection eo107 with f1_ f2_ f3_; have f4_:=f1_.symm; have f5_:=f3_.symm; clear f1_ f2_ f3_; subst f4_; subst f5_))
          refine hK.out _ _ ⟨(bc_ BK759.out 0).trans rfl,(bc_ BK759.out 1).trans rfl,(bc_ BK759.out 2).trans rfl,(bc_ BK759.out 3).trans rfl,(bc_ BK758.out 0).trans rfl,(bc_ BK758.out 1).trans rfl,(bc_ BK758.out 2).trans rfl,(bc_ BK758.out 3).trans rfl,(bc_ BK748.out 0).trans rfl,(bc_ BK748.out 1).trans rfl⟩ (fun hHeld => ?_)
          clear hK K
          refine norm_ (a':=_) ap_ ?_
          refine one_ (i:=6) (N:=some 71) #[Tt,Tt,Tt,Tt,Tt,Tt,Tt,Ff,Ff] rfl rfl (one_of HT_.out (by kernel_rfl)) (by decide) (fun K hK => ?_)
          refine goes_ Tryd.func115 (by kernel_rfl) rfl #[.agg #[.int .i64 t769,.int .i64 t770,.slice Ao104 t771.length co104,.slice Ao105 t774.length co105],.agg #[.int .i64 t777,.int .i64 t778,.slice Ao106 t779.length co106,.slice Ao107 t782.length co107]] (by rfl) rfl rfl ob_ ?_
          with_reducible refine (spec_fiLess.calls k2 t769 t770 _ _ t771 _ _ t774 t777 t778 _ _ t779 _ _ t782 t785 t786 t787 t790 _ ?side1 ?side2 ?side3 ?side4 ?side5 ?side6 ?side7 ?side8 A71.out).mono ?_
          (case side1 => repeat (first | exact (Kd.R_reads' HO773.out).2.2 | (with_reducible refine Kd.C_alloc ?_ _) | (with_reducible refine Kd.C_drewN ?_ _) | (with_reducible refine Kd.C_drew ?_)))
          (case side2 => exact (Kd.R_reads' HO773.out).2.1)
          (case side3 => repeat (first | exact (Kd.R_reads' HO776.out).2.2 | (with_reducible refine Kd.C_alloc ?_ _) | (with_reducible refine Kd.C_drewN ?_ _) | (with_reducible refine Kd.C_drew ?_)))
          (case side4 => exact (Kd.R_reads' HO776.out).2.1)
          (case side5 => repeat (first | exact (Kd.R_reads' HO781.out).2.2 | (with_reducible refine Kd.C_alloc ?_ _) | (with_reducible refine Kd.C_drewN ?_ _) | (with_reducible refine Kd.C_drew ?_)))
          (case side6 => exact (Kd.R_reads' HO781.out).2.1)
          (case side7 => repeat (first | exact (Kd.R_reads' HO784.out).2.2 | (with_reducible refine Kd.C_alloc ?_ _) | (with_reducible refine Kd.C_drewN ?_ _) | (with_reducible refine Kd.C_drew ?_)))
          (case side8 => exact (Kd.R_reads' HO784.out).2.1)
          rintro e w108 ⟨v788,v791,rfl,ho0,ho1,hb⟩
          refine ⟨_,rfl,?_⟩
          have n0_:=am_ (Kd.R_mono (Kd.R_told (Kd.R_told (Kd.R_old (kr_ HO_759002.out) hb) (Kd.R_base ho0)) (Kd.R_base ho1)) (fun _ h_ => h_.1))
          have n1_:=am_ (Kd.R_mono (Kd.R_told (Kd.R_told (Kd.R_old (kr_ HO_759003.out) hb) (Kd.R_base ho0)) (Kd.R_base ho1)) (fun _ h_ => h_.1))
          have n2_:=am_ (Kd.R_mono (Kd.R_told (Kd.R_told (Kd.R_old (kr_ HO_760002.out) hb) (Kd.R_base ho0)) (Kd.R_base ho1)) (fun _ h_ => h_.1))
          have n3_:=am_ (Kd.R_mono (Kd.R_told (Kd.R_told (Kd.R_old (kr_ HO_760003.out) hb) (Kd.R_base ho0)) (Kd.R_base ho1)) (fun _ h_ => h_.1))
          have n4_:=am_ (Kd.R_mono (Kd.R_told (Kd.R_told (Kd.R_old (kr_ HO773.out) hb) (Kd.R_base ho0)) (Kd.R_base ho1)) (fun _ h_ => h_.1))
          have n5_:=am_ (Kd.R_mono (Kd.R_told (Kd.R_told (Kd.R_old (kr_ HO776.out) hb) (Kd.R_base ho0)) (Kd.R_base ho1)) (fun _ h_ => h_.1))
          have n6_:=am_ (Kd.R_mono (Kd.R_told (Kd.R_told (Kd.R_old (kr_ HO781.out) hb) (Kd.R_base ho0)) (Kd.R_base ho1)) (fun _ h_ => h_.1))
          have n7_:=am_ (Kd.R_mono (Kd.R_told (Kd.R_told (Kd.R_old (kr_ HO784.out) hb) (Kd.R_base ho0)) (Kd.R_base ho1)) (fun _ h_ => h_.1))
          have n8_:=am_ (Kd.R_lower (Kd.R_new' (Kd.R_new' (Kd.R_new' (Kd.R_new' (Kd.R_new' (Kd.R_new' (Kd.R_new' (Kd.R_new' ho0 (Kd.R_lt (kr_ HO_759002.out))) (Kd.R_lt (kr_ HO_759003.out))) (Kd.R_lt (kr_ HO_760002.out))) (Kd.R_lt (kr_ HO_760003.out))) (Kd.R_lt (kr_ HO773.out))) (Kd.R_lt (kr_ HO776.out))) (Kd.R_lt (kr_ HO781.out))) (Kd.R_lt (kr_ HO784.out))) (below_size (bl6_ HB.out GE748.out GE749.out GE758.out GE759.out GE764.out GE768.out)))
          have n9_:=am_ (Kd.R_lower (Kd.R_new' (Kd.R_new' (Kd.R_new' (Kd.R_new' (Kd.R_new' (Kd.R_new' (Kd.R_new' (Kd.R_new' ho1 (Kd.R_lt (kr_ HO_759002.out))) (Kd.R_lt (kr_ HO_759003.out))) (Kd.R_lt (kr_ HO_760002.out))) (Kd.R_lt (kr_ HO_760003.out))) (Kd.R_lt (kr_ HO773.out))) (Kd.R_lt (kr_ HO776.out))) (Kd.R_lt (kr_ HO781.out))) (Kd.R_lt (kr_ HO784.out))) (below_size (bl6_ HB.out GE748.out GE749.out GE758.out GE759.out GE764.out GE768.out)))
          have n10_:=am_ (bb_ BK748.out hb)
          have n11_:=am_ (bb_ BK749.out hb)
          have n12_:=am_ (bb_ BK758.out hb)
          have n13_:=am_ (bb_ BK759.out hb)
          have n14_:=am_ (bb_ BK764.out hb)
          have n15_:=am_ (bb_ BK768.out hb)
          have n16_:=am_ (below_step (bl6_ HB.out GE748.out GE749.out GE758.out GE759.out GE764.out GE768.out) hb)
          clear HO_759002
          clear HO_759003
          clear HO_760002
          clear HO_760003
          clear HO773
          clear HO776
          clear HO781
          clear HO784
          clear BK748
          clear BK749
          clear BK758
          clear BK759
          clear BK764
          clear BK768
          clear HB
          have HO_759002:=n0_
          have HO_759003:=n1_
          have HO_760002:=n2_
          have HO_760003:=n3_
          have HO773:=n4_
          have HO776:=n5_
          have HO781:=n6_
          have HO784:=n7_
          have HO789:=n8_
          have HO792:=n9_
          have BK748:=n10_
          have BK749:=n11_
          have BK758:=n12_
          have BK759:=n13_
          have BK764:=n14_
          have BK768:=n15_
          have HB:=n16_
          clear n0_ n1_ n2_ n3_ n4_ n5_ n6_ n7_ n8_ n9_ n10_ n11_ n12_ n13_ n14_ n15_ n16_
          (try clear hb)
          (try clear hb2)
          (try clear hk)
          (try clear hi)
          (try clear ho0)
          (try clear ho1)
          obtain ⟨Ao109,co109,eo109⟩:=Kd.R_slice HO789.out
          (first | subst eo109 | (injection eo109 with f1_ f2_ f3_; have f4_:=f1_.symm; have f5_:=f3_.symm; clear f1_ f2_ f3_; subst f4_; subst f5_))
          obtain ⟨Ao110,co110,eo110⟩:=Kd.R_slice HO792.out
          (first | subst eo110 | (injection eo110 with f1_ f2_ f3_; have f4_:=f1_.symm; have f5_:=f3_.symm; clear f1_ f2_ f3_; subst f4_; subst f5_))
          refine hK.out _ _ ⟨(bc_ BK759.out 0).trans rfl,(bc_ BK759.out 1).trans rfl,(bc_ BK759.out 2).trans rfl,(bc_ BK759.out 3).trans rfl,(bc_ BK758.out 0).trans rfl,(bc_ BK758.out 1).trans rfl,(bc_ BK758.out 2).trans rfl,(bc_ BK758.out 3).trans rfl,(bc_ BK748.out 0).trans rfl,(bc_ BK748.out 1).trans rfl⟩ (fun hHeld => ?_)
          clear hK K
          refine norm_ (a':=_) ap_ ?_
          refine one_ (i:=7) (N:=some 72) #[Tt,Tt,Tt,Tt,Tt,Tt,Tt,Tt,Ff] rfl rfl (one_of HT_.out (by kernel_rfl)) (by decide) (fun K hK => ?_)
          refine goes_ Tryd.func114 (by kernel_rfl) rfl #[.agg #[.int .i64 t785,.int .i64 t786,.slice Ao109 t787.length co109,.slice Ao110 t790.length co110]] (by rfl) rfl rfl ob_ ?_
          with_reducible refine (spec_fiMissing.calls k2 t785 t786 _ _ t787 _ _ t790 t793 t794 t795 t798 _ ?side1 ?side2 ?side3 ?side4 A72.out).mono ?_
          (case side1 => repeat (first | exact (Kd.R_reads' HO789.out).2.2 | (with_reducible refine Kd.C_alloc ?_ _) | (with_reducible refine Kd.C_drewN ?_ _) | (with_reducible refine Kd.C_drew ?_)))
          (case side2 => exact (Kd.R_reads' HO789.out).2.1)
          (case side3 => repeat (first | exact (Kd.R_reads' HO792.out).2.2 | (with_reducible refine Kd.C_alloc ?_ _) | (with_reducible refine Kd.C_drewN ?_ _) | (with_reducible refine Kd.C_drew ?_)))
          (case side4 => exact (Kd.R_reads' HO792.out).2.1)
          rintro e w111 ⟨v796,v799,rfl,ho0,ho1,hb⟩
          refine ⟨_,rfl,?_⟩
          have n0_:=am_ (Kd.R_mono (Kd.R_told (Kd.R_told (Kd.R_old (kr_ HO_759002.out) hb) (Kd.R_base ho0)) (Kd.R_base ho1)) (fun _ h_ => h_.1))
          have n1_:=am_ (Kd.R_mono (Kd.R_told (Kd.R_told (Kd.R_old (kr_ HO_759003.out) hb) (Kd.R_base ho0)) (Kd.R_base ho1)) (fun _ h_ => h_.1))
          have n2_:=am_ (Kd.R_mono (Kd.R_told (Kd.R_told (Kd.R_old (kr_ HO_760002.out) hb) (Kd.R_base ho0)) (Kd.R_base ho1)) (fun _ h_ => h_.1))
          have n3_:=am_ (Kd.R_mono (Kd.R_told (Kd.R_told (Kd.R_old (kr_ HO_760003.out) hb) (Kd.R_base ho0)) (Kd.R_base ho1)) (fun _ h_ => h_.1))
          have n4_:=am_ (Kd.R_mono (Kd.R_told (Kd.R_told (Kd.R_old (kr_ HO773.out) hb) (Kd.R_base ho0)) (Kd.R_base ho1)) (fun _ h_ => h_.1))
          have n5_:=am_ (Kd.R_mono (Kd.R_told (Kd.R_told (Kd.R_old (kr_ HO776.out) hb) (Kd.R_base ho0)) (Kd.R_base ho1)) (fun _ h_ => h_.1))
          have n6_:=am_ (Kd.R_mono (Kd.R_told (Kd.R_told (Kd.R_old (kr_ HO781.out) hb) (Kd.R_base ho0)) (Kd.R_base ho1)) (fun _ h_ => h_.1))
          have n7_:=am_ (Kd.R_mono (Kd.R_told (Kd.R_told (Kd.R_old (kr_ HO784.out) hb) (Kd.R_base ho0)) (Kd.R_base ho1)) (fun _ h_ => h_.1))
          have n8_:=am_ (Kd.R_mono (Kd.R_told (Kd.R_told (Kd.R_old (kr_ HO789.out) hb) (Kd.R_base ho0)) (Kd.R_base ho1)) (fun _ h_ => h_.1))
          have n9_:=am_ (Kd.R_mono (Kd.R_told (Kd.R_told (Kd.R_old (kr_ HO792.out) hb) (Kd.R_base ho0)) (Kd.R_base ho1)) (fun _ h_ => h_.1))
          have n10_:=am_ (Kd.R_lower (Kd.R_new' (Kd.R_new' (Kd.R_new' (Kd.R_new' (Kd.R_new' (Kd.R_new' (Kd.R_new' (Kd.R_new' (Kd.R_new' (Kd.R_new' ho0 (Kd.R_lt (kr_ HO_759002.out))) (Kd.R_lt (kr_ HO_759003.out))) (Kd.R_lt (kr_ HO_760002.out))) (Kd.R_lt (kr_ HO_760003.out))) (Kd.R_lt (kr_ HO773.out))) (Kd.R_lt (kr_ HO776.out))) (Kd.R_lt (kr_ HO781.out))) (Kd.R_lt (kr_ HO784.out))) (Kd.R_lt (kr_ HO789.out))) (Kd.R_lt (kr_ HO792.out))) (below_size (bl6_ HB.out GE748.out GE749.out GE758.out GE759.out GE764.out GE768.out)))
          have n11_:=am_ (Kd.R_lower (Kd.R_new' (Kd.R_new' (Kd.R_new' (Kd.R_new' (Kd.R_new' (Kd.R_new' (Kd.R_new' (Kd.R_new' (Kd.R_new' (Kd.R_new' ho1 (Kd.R_lt (kr_ HO_759002.out))) (Kd.R_lt (kr_ HO_759003.out))) (Kd.R_lt (kr_ HO_760002.out))) (Kd.R_lt (kr_ HO_760003.out))) (Kd.R_lt (kr_ HO773.out))) (Kd.R_lt (kr_ HO776.out))) (Kd.R_lt (kr_ HO781.out))) (Kd.R_lt (kr_ HO784.out))) (Kd.R_lt (kr_ HO789.out))) (Kd.R_lt (kr_ HO792.out))) (below_size (bl6_ HB.out GE748.out GE749.out GE758.out GE759.out GE764.out GE768.out)))
          have n12_:=am_ (bb_ BK748.out hb)
          have n13_:=am_ (bb_ BK749.out hb)
          have n14_:=am_ (bb_ BK758.out hb)
          have n15_:=am_ (bb_ BK759.out hb)
          have n16_:=am_ (bb_ BK764.out hb)
          have n17_:=am_ (bb_ BK768.out hb)
          have n18_:=am_ (below_step (bl6_ HB.out GE748.out GE749.out GE758.out GE759.out GE764.out GE768.out) hb)
          clear HO_759002
          clear HO_759003
          clear HO_760002
          clear HO_760003
          clear HO773
          clear HO776
          clear HO781
          clear HO784
          clear HO789
          clear HO792
          clear BK748
          clear BK749
          clear BK758
          clear BK759
          clear BK764
          clear BK768
          clear HB
          have HO_759002:=n0_
          have HO_759003:=n1_
          have HO_760002:=n2_
          have HO_760003:=n3_
          have HO773:=n4_
          have HO776:=n5_
          have HO781:=n6_
          have HO784:=n7_
          have HO789:=n8_
          have HO792:=n9_
          have HO797:=n10_
          have HO800:=n11_
          have BK748:=n12_
          have BK749:=n13_
          have BK758:=n14_
          have BK759:=n15_
          have BK764:=n16_
          have BK768:=n17_
          have HB:=n18_
          clear n0_ n1_ n2_ n3_ n4_ n5_ n6_ n7_ n8_ n9_ n10_ n11_ n12_ n13_ n14_ n15_ n16_ n17_ n18_
          (try clear hb)
          (try clear hb2)
          (try clear hk)
          (try clear hi)
          (try clear ho0)
          (try clear ho1)
          obtain ⟨Ao114,co114,eo114⟩:=Kd.R_slice HO797.out
          (first | subst eo114 | (injection eo114 with f1_ f2_ f3_; have f4_:=f1_.symm; have f5_:=f3_.symm; clear f1_ f2_ f3_; subst f4_; subst f5_))
          obtain ⟨Ao116,co116,eo116⟩:=Kd.R_slice HO800.out
          (first | subst eo116 | (injection eo116 with f1_ f2_ f3_; have f4_:=f1_.symm; have f5_:=f3_.symm; clear f1_ f2_ f3_; subst f4_; subst f5_))
          refine hK.out _ _ ⟨(bc_ BK759.out 0).trans rfl,(bc_ BK759.out 1).trans rfl,(bc_ BK759.out 2).trans rfl,(bc_ BK759.out 3).trans rfl,(bc_ BK758.out 0).trans rfl,(bc_ BK758.out 1).trans rfl,(bc_ BK758.out 2).trans rfl,(bc_ BK758.out 3).trans rfl,(bc_ BK748.out 0).trans rfl,(bc_ BK748.out 1).trans rfl⟩ (fun hHeld => ?_)
          clear hK K
          refine norm_ (a':=_) ap_ ?_
          refine last_ (i:=8) (N:=none) #[Tt,Tt,Tt,Tt,Tt,Tt,Tt,Tt,Tt] rfl rfl (one_of HT_.out (by kernel_rfl)) (by decide) (fun K hK => ?_)
          have hs112:w111.cell? ⟨gb759,0,none⟩ = some (.int .i64 x760000_1):=(bc_ BK759.out 0).trans rfl
          have hfs112:=bz_ BK759.out 0
          have hns112_0:=NB748_759.out
          have hns112_1:=NB749_759.out
          have hns112_2:=NB758_759.out
          have hns112_4:=NB764_759.out
          have hns112_5:=NB768_759.out
          have hms112_0:=NB759_748.out
          have hms112_1:=NB759_749.out
          have hms112_2:=NB759_758.out
          have hms112_4:=NB759_764.out
          have hms112_5:=NB759_768.out
          have hs113:w111.cell? ⟨gb759,1,none⟩ = some (.int .i64 x760001_1):=(bc_ BK759.out 1).trans rfl
          have hfs113:=bz_ BK759.out 1
          have hns113_0:=NB748_759.out
          have hns113_1:=NB749_759.out
          have hns113_2:=NB758_759.out
          have hns113_4:=NB764_759.out
          have hns113_5:=NB768_759.out
          have hms113_0:=NB759_748.out
          have hms113_1:=NB759_749.out
          have hms113_2:=NB759_758.out
          have hms113_4:=NB759_764.out
          have hms113_5:=NB759_768.out
          have hs115:w111.cell? ⟨gb759,2,none⟩ = some (.slice Ao90 x760002_1.length co90):=(bc_ BK759.out 2).trans rfl
          have hfs115:=bz_ BK759.out 2
          have hns115_0:=NB748_759.out
          have hns115_1:=NB749_759.out
          have hns115_2:=NB758_759.out
          have hns115_4:=NB764_759.out
          have hns115_5:=NB768_759.out
          have hms115_0:=NB759_748.out
          have hms115_1:=NB759_749.out
          have hms115_2:=NB759_758.out
          have hms115_4:=NB759_764.out
          have hms115_5:=NB759_768.out
          have hs117:w111.cell? ⟨gb759,3,none⟩ = some (.slice Ao91 x760003_1.length co91):=(bc_ BK759.out 3).trans rfl
          have hfs117:=bz_ BK759.out 3
          have hns117_0:=NB748_759.out
          have hns117_1:=NB749_759.out
          have hns117_2:=NB758_759.out
          have hns117_4:=NB764_759.out
          have hns117_5:=NB768_759.out
          have hms117_0:=NB759_748.out
          have hms117_1:=NB759_749.out
          have hms117_2:=NB759_758.out
          have hms117_4:=NB759_764.out
          have hms117_5:=NB759_768.out
          refine skip_ (w1:=?_) (by rfl) rfl ?_ ?_
          rotate_left
          ·go_simp
           rfl
          refine hK.out _ _ ?_
          clear hK K
          refine done_ (done_of HT_.out (by kernel_rfl)) ?_
          have hcz118_0:w111.cell? ⟨gb764,0,none⟩ = some (.int .i64 t761):=(bc_ BK764.out 0).trans rfl
          have hcz118_1:w111.cell? ⟨gb764,1,none⟩ = some (.int .i64 t762):=(bc_ BK764.out 1).trans rfl
          have hfz118_0:=bz_ BK764.out 0
          have hfz118_1:=bz_ BK764.out 1
          have hcz119_0:w111.cell? ⟨gb748,0,none⟩ = some (.int .i64 x749000_1):=(bc_ BK748.out 0).trans rfl
          have hcz119_1:w111.cell? ⟨gb748,1,none⟩ = some (.int .i64 x749001_1):=(bc_ BK748.out 1).trans rfl
          have hfz119_0:=bz_ BK748.out 0
          have hfz119_1:=bz_ BK748.out 1
          try go_wp2
          go_roundg k2
          case measure => have:=HK1.out; have:=HK2.out; omega
          case rel => exact ⟨(wrap64 (x12_1 + 1)),(t761),(t762),(x750000_1),(x750001_1),(t793),(t794),(t795),(t798),(.slice Ao114 t795.length co114),(.slice Ao116 t798.length co116),rs_,H',⟨by have:=HK1.out; have:=HK2.out; omega⟩,⟨by (with_reducible repeat (first | apply Kd.R_alloc | apply Kd.R_drewN | apply Kd.R_drew)); exact Kd.R_mono (Kd.R_far (p:=⟨gb748,1,none⟩) (Kd.R_far (p:=⟨gb748,0,none⟩) (Kd.R_far (p:=⟨gb759,3,none⟩) (Kd.R_far (p:=⟨gb759,2,none⟩) (Kd.R_far (p:=⟨gb759,1,none⟩) (Kd.R_far (p:=⟨gb759,0,none⟩) (Kd.R_types (Kd.R_types HO_759002.out BK759.out (by decide)) BK748.out (by decide)) (fun _ hk => hk.1.2) (.int .i64 t793)) (fun _ hk => hk.1.2) (.int .i64 t794)) (fun _ hk => hk.1.2) (.slice Ao114 t795.length co114)) (fun _ hk => hk.1.2) (.slice Ao116 t798.length co116)) (fun _ hk => hk.2) (.int .i64 t761)) (fun _ hk => hk.2) (.int .i64 t762)) (fun _ hk => ⟨hk.1.1.1.1.1.1.1.1.1.1.1,⟨hk.1.1.1.2,hk.1.1.2⟩⟩)⟩,⟨by (with_reducible repeat (first | apply Kd.R_alloc | apply Kd.R_drewN | apply Kd.R_drew)); exact Kd.R_mono (Kd.R_far (p:=⟨gb748,1,none⟩) (Kd.R_far (p:=⟨gb748,0,none⟩) (Kd.R_far (p:=⟨gb759,3,none⟩) (Kd.R_far (p:=⟨gb759,2,none⟩) (Kd.R_far (p:=⟨gb759,1,none⟩) (Kd.R_far (p:=⟨gb759,0,none⟩) (Kd.R_types (Kd.R_types HO_759003.out BK759.out (by decide)) BK748.out (by decide)) (fun _ hk => hk.1.2) (.int .i64 t793)) (fun _ hk => hk.1.2) (.int .i64 t794)) (fun _ hk => hk.1.2) (.slice Ao114 t795.length co114)) (fun _ hk => hk.1.2) (.slice Ao116 t798.length co116)) (fun _ hk => hk.2) (.int .i64 t761)) (fun _ hk => hk.2) (.int .i64 t762)) (fun _ hk => ⟨hk.1.1.1.1.1.1.1.1.1.1.1,⟨hk.1.1.1.2,hk.1.1.2⟩⟩)⟩,⟨by (with_reducible repeat (first | apply Kd.R_alloc | apply Kd.R_drewN | apply Kd.R_drew)); exact Kd.R_mono (Kd.R_far (p:=⟨gb748,1,none⟩) (Kd.R_far (p:=⟨gb748,0,none⟩) (Kd.R_far (p:=⟨gb759,3,none⟩) (Kd.R_far (p:=⟨gb759,2,none⟩) (Kd.R_far (p:=⟨gb759,1,none⟩) (Kd.R_far (p:=⟨gb759,0,none⟩) (Kd.R_types (Kd.R_types HO797.out BK759.out (by decide)) BK748.out (by decide)) (fun _ hk => hk.1.2) (.int .i64 t793)) (fun _ hk => hk.1.2) (.int .i64 t794)) (fun _ hk => hk.1.2) (.slice Ao114 t795.length co114)) (fun _ hk => hk.1.2) (.slice Ao116 t798.length co116)) (fun _ hk => hk.2) (.int .i64 t761)) (fun _ hk => hk.2) (.int .i64 t762)) (fun _ hk => ⟨hk.1.1.1.1.1.1.1.1.1.1.1.2,⟨hk.1.1.1.1.1.1.1.1.1.1.2,hk.1.1.1.1.1.1.1.1.1.1.1.1⟩⟩)⟩,⟨by (with_reducible repeat (first | apply Kd.R_alloc | apply Kd.R_drewN | apply Kd.R_drew)); exact Kd.R_mono (Kd.R_far (p:=⟨gb748,1,none⟩) (Kd.R_far (p:=⟨gb748,0,none⟩) (Kd.R_far (p:=⟨gb759,3,none⟩) (Kd.R_far (p:=⟨gb759,2,none⟩) (Kd.R_far (p:=⟨gb759,1,none⟩) (Kd.R_far (p:=⟨gb759,0,none⟩) (Kd.R_types (Kd.R_types HO800.out BK759.out (by decide)) BK748.out (by decide)) (fun _ hk => hk.1.2) (.int .i64 t793)) (fun _ hk => hk.1.2) (.int .i64 t794)) (fun _ hk => hk.1.2) (.slice Ao114 t795.length co114)) (fun _ hk => hk.1.2) (.slice Ao116 t798.length co116)) (fun _ hk => hk.2) (.int .i64 t761)) (fun _ hk => hk.2) (.int .i64 t762)) (fun _ hk => ⟨hk.1.1.1.1.1.1.1.1.1.1.1.2,⟨hk.1.1.1.1.1.1.1.1.1.1.2,hk.1.1.1.1.1.1.1.1.1.1.1.1⟩⟩)⟩,⟨by (with_reducible repeat (first | refine blk_drewN ?_ _ | refine blk_drew ?_ | refine blk_alloc ?_ _)); refine blk_put (cs:=#[.int .i64 t761,.int .i64 x749001_1]) ?_ 1 _ rfl; (with_reducible repeat (first | refine blk_drewN ?_ _ | refine blk_drew ?_ | refine blk_alloc ?_ _)); refine blk_put (cs:=#[.int .i64 x749000_1,.int .i64 x749001_1]) ?_ 0 _ rfl; (with_reducible repeat (first | refine blk_drewN ?_ _ | refine blk_drew ?_ | refine blk_alloc ?_ _)); refine blk_far ?_ NB748_759.out _; (with_reducible repeat (first | refine blk_drewN ?_ _ | refine blk_drew ?_ | refine blk_alloc ?_ _)); refine blk_far ?_ NB748_759.out _; (with_reducible repeat (first | refine blk_drewN ?_ _ | refine blk_drew ?_ | refine blk_alloc ?_ _)); refine blk_far ?_ NB748_759.out _; (with_reducible repeat (first | refine blk_drewN ?_ _ | refine blk_drew ?_ | refine blk_alloc ?_ _)); refine blk_far ?_ NB748_759.out _; (with_reducible repeat (first | refine blk_drewN ?_ _ | refine blk_drew ?_ | refine blk_alloc ?_ _)); exact BK748.out⟩,⟨bf6_ NB749_748.out NB749_748.out NB749_759.out NB749_759.out NB749_759.out NB749_759.out BK749.out⟩,⟨bf6_ NB758_748.out NB758_748.out NB758_759.out NB758_759.out NB758_759.out NB758_759.out BK758.out⟩,⟨by (with_reducible repeat (first | refine blk_drewN ?_ _ | refine blk_drew ?_ | refine blk_alloc ?_ _)); refine blk_far ?_ NB759_748.out _; (with_reducible repeat (first | refine blk_drewN ?_ _ | refine blk_drew ?_ | refine blk_alloc ?_ _)); refine blk_far ?_ NB759_748.out _; (with_reducible repeat (first | refine blk_drewN ?_ _ | refine blk_drew ?_ | refine blk_alloc ?_ _)); refine blk_put (cs:=#[.int .i64 t793,.int .i64 t794,.slice Ao114 t795.length co114,.slice Ao91 x760003_1.length co91]) ?_ 3 _ rfl; (with_reducible repeat (first | refine blk_drewN ?_ _ | refine blk_drew ?_ | refine blk_alloc ?_ _)); refine blk_put (cs:=#[.int .i64 t793,.int .i64 t794,.slice Ao90 x760002_1.length co90,.slice Ao91 x760003_1.length co91]) ?_ 2 _ rfl; (with_reducible repeat (first | refine blk_drewN ?_ _ | refine blk_drew ?_ | refine blk_alloc ?_ _)); refine blk_put (cs:=#[.int .i64 t793,.int .i64 x760001_1,.slice Ao90 x760002_1.length co90,.slice Ao91 x760003_1.length co91]) ?_ 1 _ rfl; (with_reducible repeat (first | refine blk_drewN ?_ _ | refine blk_drew ?_ | refine blk_alloc ?_ _)); refine blk_put (cs:=#[.int .i64 x760000_1,.int .i64 x760001_1,.slice Ao90 x760002_1.length co90,.slice Ao91 x760003_1.length co91]) ?_ 0 _ rfl; (with_reducible repeat (first | refine blk_drewN ?_ _ | refine blk_drew ?_ | refine blk_alloc ?_ _)); exact BK759.out⟩,⟨bl6_ HB.out GE748.out GE749.out GE758.out GE759.out GE764.out GE768.out⟩⟩
        ·replace c38:=Bool.eq_false_iff.mpr c38
         subst c38
         have H1:(some (0,0,([]:List Int),([]:List Int),false)) = some (r1,r2,r3,r4,r5):=by rw [if_neg (show ¬ (false = true) by decide)] at H; exact H
         clear H
         have H:=H1
         clear H1
         simp only [Option.some.injEq,Prod.mk.injEq] at H
         obtain ⟨rfl,rfl,rfl,rfl,rfl⟩:=H
         have hnb120:=NB758_748.out
         have hnc120:=NB748_758.out
         have hnb121:=NB758_749.out
         have hnc121:=NB749_758.out
         have hnb122:=NB758_759.out
         have hnc122:=NB759_758.out
         have hcz123_0:wr.cell? ⟨gb758,0,none⟩ = some (.int .i64 t750):=(bc_ BK758.out 0).trans rfl
         have hcz123_1:wr.cell? ⟨gb758,1,none⟩ = some (.int .i64 t751):=(bc_ BK758.out 1).trans rfl
         have hcz123_2:wr.cell? ⟨gb758,2,none⟩ = some (.slice Ao13 t752.length co13):=(bc_ BK758.out 2).trans rfl
         have hcz123_3:wr.cell? ⟨gb758,3,none⟩ = some (.slice Ao14 t755.length co14):=(bc_ BK758.out 3).trans rfl
         have hfz123_0:=bz_ BK758.out 0
         have hfz123_1:=bz_ BK758.out 1
         have hfz123_2:=bz_ BK758.out 2
         have hfz123_3:=bz_ BK758.out 3
         have hnb124:=NB748_749.out
         have hnc124:=NB749_748.out
         have hnb125:=NB748_759.out
         have hnc125:=NB759_748.out
         have hcz126_0:wr.cell? ⟨gb748,0,none⟩ = some (.int .i64 x749000_1):=(bc_ BK748.out 0).trans rfl
         have hcz126_1:wr.cell? ⟨gb748,1,none⟩ = some (.int .i64 x749001_1):=(bc_ BK748.out 1).trans rfl
         have hfz126_0:=bz_ BK748.out 0
         have hfz126_1:=bz_ BK748.out 1
         go_wp2_with (first | ((with_reducible refine gate_callee (f:=113) rfl ?_); refine goesL_ (some 50) rfl rfl Tryd.func113 (by kernel_rfl) rfl #[.agg #[.int .i64 t750,.int .i64 t751,.slice Ao13 t752.length co13,.slice Ao14 t755.length co14],.agg #[.int .i64 x749000_1,.int .i64 x749001_1],.int .i64 x13_2] rfl ob_ ?_; (with_reducible refine (spec_liNext.calls k2 t750 t751 _ _ t752 _ _ t755 x749000_1 x749001_1 x13_2 t761 t762 false _ ?side1 ?side2 ?side3 ?side4 A37.out).mono ?_); (case side1 => repeat (first | exact (Kd.R_reads' HO_759002.out).2.2 | (with_reducible refine Kd.C_alloc ?_ _) | (with_reducible refine Kd.C_drewN ?_ _) | (with_reducible refine Kd.C_drew ?_))); (case side2 => exact (Kd.R_reads' HO_759002.out).2.1); (case side3 => repeat (first | exact (Kd.R_reads' HO_759003.out).2.2 | (with_reducible refine Kd.C_alloc ?_ _) | (with_reducible refine Kd.C_drewN ?_ _) | (with_reducible refine Kd.C_drew ?_))); (case side4 => exact (Kd.R_reads' HO_759003.out).2.1); rintro e w127 ⟨rfl,hb⟩; refine ⟨_,rfl,?_⟩; have n0_:=am_ (Kd.R_below (kr_ HO_759002.out) hb); have n1_:=am_ (Kd.R_below (kr_ HO_759003.out) hb); have n2_:=am_ (Kd.R_below (kr_ HO_760002.out) hb); have n3_:=am_ (Kd.R_below (kr_ HO_760003.out) hb); have n4_:=am_ (bb_ BK748.out hb); have n5_:=am_ (bb_ BK749.out hb); have n6_:=am_ (bb_ BK758.out hb); have n7_:=am_ (bb_ BK759.out hb); have n8_:=am_ (below_step (bl4_ HB.out GE748.out GE749.out GE758.out GE759.out) hb); clear HO_759002; clear HO_759003; clear HO_760002; clear HO_760003; clear BK748; clear BK749; clear BK758; clear BK759; clear HB; have HO_759002:=n0_; have HO_759003:=n1_; have HO_760002:=n2_; have HO_760003:=n3_; have BK748:=n4_; have BK749:=n5_; have BK758:=n6_; have BK759:=n7_; have HB:=n8_; clear n0_ n1_ n2_ n3_ n4_ n5_ n6_ n7_ n8_; (try clear hb); (try clear hb2); (try clear hk); (try clear hi)) | ((with_reducible refine gate_dst (N:=15) rfl ?_); refine boxE_ (N:=15) (cs:=#[.int .i64 0,.int .i64 0]) (t:=84) ?_; intro gb764 hg w128 hbox hb; have n0_:=am_ (Kd.R_below (kr_ HO_759002.out) hb); have n1_:=am_ (Kd.R_below (kr_ HO_759003.out) hb); have n2_:=am_ (Kd.R_below (kr_ HO_760002.out) hb); have n3_:=am_ (Kd.R_below (kr_ HO_760003.out) hb); have n4_:=am_ (bb_ BK748.out hb); have n5_:=am_ (bb_ BK749.out hb); have n6_:=am_ (bb_ BK758.out hb); have n7_:=am_ (bb_ BK759.out hb); have n8_:=am_ (below_step (bl4_ HB.out GE748.out GE749.out GE758.out GE759.out) hb); have n9_:=am_ (hbox); have n10_:=am_ ((bs4_ hg HB.out GE748.out GE749.out GE758.out GE759.out:w.heap.size ≤ gb764)); have n11_:=am_ ((bs4_ hg HB.out GE748.out GE749.out GE758.out GE759.out:w.heap.size ≤ gb764)); have n12_:=am_ ((nl_ hg BK748.out:gb748 ≠ gb764)); have n13_:=am_ ((ng_ hg BK748.out:gb764 ≠ gb748)); have n14_:=am_ ((nl_ hg BK749.out:gb749 ≠ gb764)); have n15_:=am_ ((ng_ hg BK749.out:gb764 ≠ gb749)); have n16_:=am_ ((nl_ hg BK758.out:gb758 ≠ gb764)); have n17_:=am_ ((ng_ hg BK758.out:gb764 ≠ gb758)); have n18_:=am_ ((nl_ hg BK759.out:gb759 ≠ gb764)); have n19_:=am_ ((ng_ hg BK759.out:gb764 ≠ gb759)); clear HO_759002; clear HO_759003; clear HO_760002; clear HO_760003; clear BK748; clear BK749; clear BK758; clear BK759; clear HB; have HO_759002:=n0_; have HO_759003:=n1_; have HO_760002:=n2_; have HO_760003:=n3_; have BK748:=n4_; have BK749:=n5_; have BK758:=n6_; have BK759:=n7_; have HB:=n8_; have BK764:=n9_; have GW764:=n10_; have GE764:=n11_; have NB748_764:=n12_; have NB764_748:=n13_; have NB749_764:=n14_; have NB764_749:=n15_; have NB758_764:=n16_; have NB764_758:=n17_; have NB759_764:=n18_; have NB764_759:=n19_; clear n0_ n1_ n2_ n3_ n4_ n5_ n6_ n7_ n8_ n9_ n10_ n11_ n12_ n13_ n14_ n15_ n16_ n17_ n18_ n19_; clear hb hbox hg; have hnb129:=NB764_748.out; have hnc129:=NB748_764.out; have hnb130:=NB764_749.out; have hnc130:=NB749_764.out; have hnb131:=NB764_758.out; have hnc131:=NB758_764.out; have hnb132:=NB764_759.out; have hnc132:=NB759_764.out; have hcz133_0:w128.cell? ⟨gb764,0,none⟩ = some (.int .i64 0):=(bc_ BK764.out 0).trans rfl; have hcz133_1:w128.cell? ⟨gb764,1,none⟩ = some (.int .i64 0):=(bc_ BK764.out 1).trans rfl; have hfz133_0:=bz_ BK764.out 0; have hfz133_1:=bz_ BK764.out 1; have hnb134:=NB749_759.out; have hnc134:=NB759_749.out; have hcz135_0:w128.cell? ⟨gb749,0,none⟩ = some (.int .i64 x750000_1):=(bc_ BK749.out 0).trans rfl; have hcz135_1:w128.cell? ⟨gb749,1,none⟩ = some (.int .i64 x750001_1):=(bc_ BK749.out 1).trans rfl; have hcz135_2:w128.cell? ⟨gb749,2,none⟩ = some (.slice none 0 0):=(bc_ BK749.out 2).trans rfl; have hcz135_3:w128.cell? ⟨gb749,3,none⟩ = some (.slice none 0 0):=(bc_ BK749.out 3).trans rfl; have hfz135_0:=bz_ BK749.out 0; have hfz135_1:=bz_ BK749.out 1; have hfz135_2:=bz_ BK749.out 2; have hfz135_3:=bz_ BK749.out 3))
         refine bodyPost_ret (results_ct rfl _ _ gb749 36 #[.int .i64 0,.int .i64 0,.slice none 0 0,.slice none 0 0] (0,0) _ rfl (by (with_reducible repeat (first | refine blk_drewN ?_ _ | refine blk_drew ?_ | refine blk_alloc ?_ _)); refine blk_put (cs:=#[.int .i64 0,.int .i64 0,.slice none 0 0,.slice none 0 0]) ?_ 3 _ rfl; (with_reducible repeat (first | refine blk_drewN ?_ _ | refine blk_drew ?_ | refine blk_alloc ?_ _)); refine blk_put (cs:=#[.int .i64 0,.int .i64 0,.slice none 0 0,.slice none 0 0]) ?_ 2 _ rfl; (with_reducible repeat (first | refine blk_drewN ?_ _ | refine blk_drew ?_ | refine blk_alloc ?_ _)); refine blk_put (cs:=#[.int .i64 0,.int .i64 x750001_1,.slice none 0 0,.slice none 0 0]) ?_ 1 _ rfl; (with_reducible repeat (first | refine blk_drewN ?_ _ | refine blk_drew ?_ | refine blk_alloc ?_ _)); refine blk_put (cs:=#[.int .i64 x750000_1,.int .i64 x750001_1,.slice none 0 0,.slice none 0 0]) ?_ 0 _ rfl; (with_reducible repeat (first | refine blk_drewN ?_ _ | refine blk_drew ?_ | refine blk_alloc ?_ _)); refine blk_far ?_ NB749_764.out _; (with_reducible repeat (first | refine blk_drewN ?_ _ | refine blk_drew ?_ | refine blk_alloc ?_ _)); refine blk_far ?_ NB749_764.out _; (with_reducible repeat (first | refine blk_drewN ?_ _ | refine blk_drew ?_ | refine blk_alloc ?_ _)); exact BK749.out) Tryd.underlying36 rfl (by kernel_rfl)) rfl ?_
         exact ⟨_,_,er_,by first | exact Kd.R_nil _ _ _ _ _ | exact Kd.N_nil _ _ _ _ _ | exact Kd.V_nil _ _ _ _ _ | exact Kd.Q_nil _ _ _ _ _ | exact Kd.S_nil _ _ _ _ _,by first | exact Kd.R_nil _ _ _ _ _ | exact Kd.N_nil _ _ _ _ _ | exact Kd.V_nil _ _ _ _ _ | exact Kd.Q_nil _ _ _ _ _ | exact Kd.S_nil _ _ _ _ _,bl5_ HB.out GE748.out GE749.out GE758.out GE759.out GE764.out⟩
   ·rw [if_neg c20] at H
    have c20b0:decide (x12_1 < (a3.size:Int)) = false:=decide_eq_false c20
    clear c20
    simp only [Option.some.injEq,Prod.mk.injEq] at H
    obtain ⟨rfl,rfl,rfl,rfl,rfl⟩:=H
    have hnb136:=NB759_748.out
    have hnc136:=NB748_759.out
    have hnb137:=NB759_749.out
    have hnc137:=NB749_759.out
    have hnb138:=NB759_758.out
    have hnc138:=NB758_759.out
    have hcz139_0:wr.cell? ⟨gb759,0,none⟩ = some (.int .i64 x760000_1):=(bc_ BK759.out 0).trans rfl
    have hcz139_1:wr.cell? ⟨gb759,1,none⟩ = some (.int .i64 x760001_1):=(bc_ BK759.out 1).trans rfl
    have hcz139_2:wr.cell? ⟨gb759,2,none⟩ = some (u760002):=(bc_ BK759.out 2).trans rfl
    have hcz139_3:wr.cell? ⟨gb759,3,none⟩ = some (u760003):=(bc_ BK759.out 3).trans rfl
    have hfz139_0:=bz_ BK759.out 0
    have hfz139_1:=bz_ BK759.out 1
    have hfz139_2:=bz_ BK759.out 2
    have hfz139_3:=bz_ BK759.out 3
    have hnb140:=NB749_748.out
    have hnc140:=NB748_749.out
    have hnb141:=NB749_758.out
    have hnc141:=NB758_749.out
    have hcz142_0:wr.cell? ⟨gb749,0,none⟩ = some (.int .i64 x750000_1):=(bc_ BK749.out 0).trans rfl
    have hcz142_1:wr.cell? ⟨gb749,1,none⟩ = some (.int .i64 x750001_1):=(bc_ BK749.out 1).trans rfl
    have hcz142_2:wr.cell? ⟨gb749,2,none⟩ = some (.slice none 0 0):=(bc_ BK749.out 2).trans rfl
    have hcz142_3:wr.cell? ⟨gb749,3,none⟩ = some (.slice none 0 0):=(bc_ BK749.out 3).trans rfl
    have hfz142_0:=bz_ BK749.out 0
    have hfz142_1:=bz_ BK749.out 1
    have hfz142_2:=bz_ BK749.out 2
    have hfz142_3:=bz_ BK749.out 3
    obtain ⟨Ao143,co143,eo143⟩:=Kd.R_slice HO_760002.out
    subst eo143
    obtain ⟨Ao144,co144,eo144⟩:=Kd.R_slice HO_760003.out
    subst eo144
    go_wp2
    refine bodyPost_ret (results_ct rfl _ _ gb749 36 #[.int .i64 x760000_1,.int .i64 x760001_1,.slice Ao143 x760002_1.length co143,.slice Ao144 x760003_1.length co144] (0,0) _ rfl (by (with_reducible repeat (first | refine blk_drewN ?_ _ | refine blk_drew ?_ | refine blk_alloc ?_ _)); refine blk_put (cs:=#[.int .i64 x760000_1,.int .i64 x760001_1,.slice Ao143 x760002_1.length co143,.slice none 0 0]) ?_ 3 _ rfl; (with_reducible repeat (first | refine blk_drewN ?_ _ | refine blk_drew ?_ | refine blk_alloc ?_ _)); refine blk_put (cs:=#[.int .i64 x760000_1,.int .i64 x760001_1,.slice none 0 0,.slice none 0 0]) ?_ 2 _ rfl; (with_reducible repeat (first | refine blk_drewN ?_ _ | refine blk_drew ?_ | refine blk_alloc ?_ _)); refine blk_put (cs:=#[.int .i64 x760000_1,.int .i64 x750001_1,.slice none 0 0,.slice none 0 0]) ?_ 1 _ rfl; (with_reducible repeat (first | refine blk_drewN ?_ _ | refine blk_drew ?_ | refine blk_alloc ?_ _)); refine blk_put (cs:=#[.int .i64 x750000_1,.int .i64 x750001_1,.slice none 0 0,.slice none 0 0]) ?_ 0 _ rfl; (with_reducible repeat (first | refine blk_drewN ?_ _ | refine blk_drew ?_ | refine blk_alloc ?_ _)); exact BK749.out) Tryd.underlying36 rfl (by kernel_rfl)) rfl ?_
    exact ⟨_,_,er_,by (with_reducible repeat (first | apply Kd.R_alloc | apply Kd.R_drewN | apply Kd.R_drew)); exact Kd.R_mono (Kd.R_far (p:=⟨gb749,3,none⟩) (Kd.R_far (p:=⟨gb749,2,none⟩) (Kd.R_far (p:=⟨gb749,1,none⟩) (Kd.R_far (p:=⟨gb749,0,none⟩) (Kd.R_types HO_760002.out BK749.out (by decide)) (fun _ hk => hk.2) (.int .i64 x760000_1)) (fun _ hk => hk.2) (.int .i64 x760001_1)) (fun _ hk => hk.2) (.slice Ao143 x760002_1.length co143)) (fun _ hk => hk.2) (.slice Ao144 x760003_1.length co144)) (fun _ hk => hk.1.2.2),by (with_reducible repeat (first | apply Kd.R_alloc | apply Kd.R_drewN | apply Kd.R_drew)); exact Kd.R_mono (Kd.R_far (p:=⟨gb749,3,none⟩) (Kd.R_far (p:=⟨gb749,2,none⟩) (Kd.R_far (p:=⟨gb749,1,none⟩) (Kd.R_far (p:=⟨gb749,0,none⟩) (Kd.R_types HO_760003.out BK749.out (by decide)) (fun _ hk => hk.2) (.int .i64 x760000_1)) (fun _ hk => hk.2) (.int .i64 x760001_1)) (fun _ hk => hk.2) (.slice Ao143 x760002_1.length co143)) (fun _ hk => hk.2) (.slice Ao144 x760003_1.length co144)) (fun _ hk => hk.1.2.2),bl4_ HB.out GE748.out GE749.out GE758.out GE759.out⟩


def spec_FigureOfLoop.f (k:Nat) (a0:ByteArray):Option (Int × Int × List Int × List Int × Bool):=(spec_loCorners.f k a0).bind fun bt802 => (if bt802.2 = true then ((spec_loBox.f k bt802.1).bind fun bt806 => ((spec_fiGrid.f (wrap64 (bt806.2.2.1 - bt806.1)) (wrap64 (bt806.2.2.2 - bt806.2.1))).bind fun t812 => (if t812 = true then ((spec_liDraw.f k (wrap64 (bt806.2.2.1 - bt806.1)) (wrap64 (bt806.2.2.2 - bt806.2.1)) (wrap64 (-bt806.1)) (wrap64 (-bt806.2.1)) a0).bind fun bt813 => (some (bt813.1,bt813.2.1,bt813.2.2.1,bt813.2.2.2.1,bt813.2.2.2.2))) else (some (0,0,([]:List Int),([]:List Int),false))))) else (some (0,0,([]:List Int),([]:List Int),false)))
theorem spec_FigureOfLoop.mono:∀ a0 k,LeO (spec_FigureOfLoop.f k a0) (spec_FigureOfLoop.f (k + 1) a0):=by
 intro a0 k
 unfold spec_FigureOfLoop.f
 repeat' first | (with_reducible first | exact spec_liDraw.mono _ _ _ _ _ _ | exact spec_loBox.mono _ _ | exact spec_loCorners.mono _ _ | exact LeO.refl _ | exact LeO.none _ | refine LeO.ite ?_ ?_ | refine LeO.bind ?_ (fun _ => ?_)) | exact spec_liDraw.mono _ _ _ _ _ _ | exact spec_loBox.mono _ _ | exact spec_loCorners.mono _ _
set_option maxHeartbeats 8000000 in
set_option maxRecDepth 100000 in
theorem spec_FigureOfLoop.calls (k:Nat) (a0:ByteArray) (r1:Int) (r2:Int) (r3:List Int) (r4:List Int) (r5:Bool) (w:World) (h:spec_FigureOfLoop.f k a0 = some (r1,r2,r3,r4,r5)) :
  Calls Tryd.prog 26 #[.string a0] w fun e w' => ∃ v2_ v3_:Value,e = .returned (.tuple #[.agg #[.int .i64 r1,.int .i64 r2,v2_,v3_],.bool r5]) ∧ Kd.R (Kd.int .i64) 3 w' w.heap.size (fun k_ => some k_ ≠ (v3_:Value).ownBlock) v2_ r3 ∧ Kd.R (Kd.int .i64) 3 w' w.heap.size (fun k_ => some k_ ≠ (v2_:Value).ownBlock) v3_ r4 ∧ Below w.heap.size w w':=by
 have hu36:=Tryd.underlying36
 have hu84:=Tryd.underlying84
 have HB:=am_ (Below.refl w.heap.size w)
 have H:((spec_loCorners.f k a0).bind fun bt802 => (if bt802.2 = true then ((spec_loBox.f k bt802.1).bind fun bt806 => ((spec_fiGrid.f (wrap64 (bt806.2.2.1 - bt806.1)) (wrap64 (bt806.2.2.2 - bt806.2.1))).bind fun t812 => (if t812 = true then ((spec_liDraw.f k (wrap64 (bt806.2.2.1 - bt806.1)) (wrap64 (bt806.2.2.2 - bt806.2.1)) (wrap64 (-bt806.1)) (wrap64 (-bt806.2.1)) a0).bind fun bt813 => (some (bt813.1,bt813.2.1,bt813.2.2.1,bt813.2.2.2.1,bt813.2.2.2.2))) else (some (0,0,([]:List Int),([]:List Int),false))))) else (some (0,0,([]:List Int),([]:List Int),false)))) = some (r1,r2,r3,r4,r5):=h
 clear h
 replace H:=bi_ H
 obtain ⟨⟨t802,t803⟩,A20,H⟩:=H
 replace H:(if t803 = true then ((spec_loBox.f k t802).bind fun bt806 => ((spec_fiGrid.f (wrap64 (bt806.2.2.1 - bt806.1)) (wrap64 (bt806.2.2.2 - bt806.2.1))).bind fun t812 => (if t812 = true then ((spec_liDraw.f k (wrap64 (bt806.2.2.1 - bt806.1)) (wrap64 (bt806.2.2.2 - bt806.2.1)) (wrap64 (-bt806.1)) (wrap64 (-bt806.2.1)) a0).bind fun bt813 => (some (bt813.1,bt813.2.1,bt813.2.2.1,bt813.2.2.2.1,bt813.2.2.2.2))) else (some (0,0,([]:List Int),([]:List Int),false))))) else (some (0,0,([]:List Int),([]:List Int),false))) = some (r1,r2,r3,r4,r5):=H
 have A2:=am_ A20
 clear A20
 by_cases c3:t803 = true
 ·subst c3
  have H1:((spec_loBox.f k t802).bind fun bt806 => ((spec_fiGrid.f (wrap64 (bt806.2.2.1 - bt806.1)) (wrap64 (bt806.2.2.2 - bt806.2.1))).bind fun t812 => (if t812 = true then ((spec_liDraw.f k (wrap64 (bt806.2.2.1 - bt806.1)) (wrap64 (bt806.2.2.2 - bt806.2.1)) (wrap64 (-bt806.1)) (wrap64 (-bt806.2.1)) a0).bind fun bt813 => (some (bt813.1,bt813.2.1,bt813.2.2.1,bt813.2.2.2.1,bt813.2.2.2.2))) else (some (0,0,([]:List Int),([]:List Int),false))))) = some (r1,r2,r3,r4,r5):=by rw [if_pos rfl] at H; exact H
  clear H
  have H:=H1
  clear H1
  replace H:=bi_ H
  obtain ⟨⟨t806,t807,t808,t809⟩,A40,H⟩:=H
  replace H:((spec_fiGrid.f (wrap64 (t808 - t806)) (wrap64 (t809 - t807))).bind fun t812 => (if t812 = true then ((spec_liDraw.f k (wrap64 (t808 - t806)) (wrap64 (t809 - t807)) (wrap64 (-t806)) (wrap64 (-t807)) a0).bind fun bt813 => (some (bt813.1,bt813.2.1,bt813.2.2.1,bt813.2.2.2.1,bt813.2.2.2.2))) else (some (0,0,([]:List Int),([]:List Int),false)))) = some (r1,r2,r3,r4,r5):=H
  have A4:=am_ A40
  clear A40
  replace H:=bi_ H
  obtain ⟨t812,A50,H⟩:=H
  replace H:(if t812 = true then ((spec_liDraw.f k (wrap64 (t808 - t806)) (wrap64 (t809 - t807)) (wrap64 (-t806)) (wrap64 (-t807)) a0).bind fun bt813 => (some (bt813.1,bt813.2.1,bt813.2.2.1,bt813.2.2.2.1,bt813.2.2.2.2))) else (some (0,0,([]:List Int),([]:List Int),false))) = some (r1,r2,r3,r4,r5):=H
  have A5:=am_ A50
  clear A50
  by_cases c6:t812 = true
  ·subst c6
   have H1:((spec_liDraw.f k (wrap64 (t808 - t806)) (wrap64 (t809 - t807)) (wrap64 (-t806)) (wrap64 (-t807)) a0).bind fun bt813 => (some (bt813.1,bt813.2.1,bt813.2.2.1,bt813.2.2.2.1,bt813.2.2.2.2))) = some (r1,r2,r3,r4,r5):=by rw [if_pos rfl] at H; exact H
   clear H
   have H:=H1
   clear H1
   replace H:=bi_ H
   obtain ⟨⟨t813,t814,t815,t818,t821⟩,A70,H⟩:=H
   replace H:(some (t813,t814,t815,t818,t821)) = some (r1,r2,r3,r4,r5):=H
   have A7:=am_ A70
   clear A70
   simp only [Option.some.injEq,Prod.mk.injEq] at H
   obtain ⟨rfl,rfl,rfl,rfl,rfl⟩:=H
   go_enter Tryd.func26,Tryd.ntmps26
   go_wp2_with (first | ((with_reducible refine gate_dst (N:=2) rfl ?_); refine boxE_ (N:=2) (cs:=#[.int .i64 0,.int .i64 0,.slice none 0 0,.slice none 0 0]) (t:=36) ?_; intro gb801 hg w8 hbox hb; have n0_:=am_ (below_step (bl0_ HB.out) hb); have n1_:=am_ (hbox); have n2_:=am_ ((bs0_ hg HB.out:w.heap.size ≤ gb801)); have n3_:=am_ ((bs0_ hg HB.out:w.heap.size ≤ gb801)); clear HB; have HB:=n0_; have BK801:=n1_; have GW801:=n2_; have GE801:=n3_; clear n0_ n1_ n2_ n3_; clear hb hbox hg) | (go_at_call 61; (with_reducible refine (spec_loCorners.calls k a0 t802 true _ A2.out).mono ?_); rintro e w9 ⟨v804,rfl,ho0,hb⟩; have n0_:=am_ (Kd.R_lower ho0 (below_size (bl1_ HB.out GE801.out))); have n1_:=am_ (bb_ BK801.out hb); have n2_:=am_ (below_step (bl1_ HB.out GE801.out) hb); clear BK801; clear HB; have HO805:=n0_; have BK801:=n1_; have HB:=n2_; clear n0_ n1_ n2_; (try clear hb); (try clear hb2); (try clear hk); (try clear hi); (try clear ho0); obtain ⟨Ao10,co10,eo10⟩:=Kd.R_slice HO805.out; subst eo10) | (go_at_call 62; (with_reducible refine (spec_loBox.calls k _ _ t802 t806 t807 t808 t809 _ ?side1 ?side2 A4.out).mono ?_); (case side1 => repeat (first | exact (Kd.R_reads' HO805.out).2.2 | (with_reducible refine Kd.C_alloc ?_ _) | (with_reducible refine Kd.C_drewN ?_ _) | (with_reducible refine Kd.C_drew ?_))); (case side2 => exact (Kd.R_reads' HO805.out).2.1); rintro e w11 ⟨rfl,hb⟩; have n0_:=am_ (Kd.R_below (kr_ HO805.out) hb); have n1_:=am_ (bb_ BK801.out hb); have n2_:=am_ (below_step (bl1_ HB.out GE801.out) hb); clear HO805; clear BK801; clear HB; have HO805:=n0_; have BK801:=n1_; have HB:=n2_; clear n0_ n1_ n2_; (try clear hb); (try clear hb2); (try clear hk); (try clear hi)) | ((with_reducible refine gate_dst (N:=6) rfl ?_); refine boxE_ (N:=6) (cs:=#[.int .i64 0,.int .i64 0]) (t:=84) ?_; intro gb810 hg w12 hbox hb; have n0_:=am_ (Kd.R_below (Kd.R_elderB (kr_ HO805.out) gb810 (Nat.le_of_eq hg.symm)) hb); have n1_:=am_ (bb_ BK801.out hb); have n2_:=am_ (below_step (bl1_ HB.out GE801.out) hb); have n3_:=am_ (hbox); have n4_:=am_ ((bs1_ hg HB.out GE801.out:w.heap.size ≤ gb810)); have n5_:=am_ ((bs1_ hg HB.out GE801.out:w.heap.size ≤ gb810)); have n6_:=am_ ((nl_ hg BK801.out:gb801 ≠ gb810)); have n7_:=am_ ((ng_ hg BK801.out:gb810 ≠ gb801)); clear HO805; clear BK801; clear HB; have HO805:=n0_; have BK801:=n1_; have HB:=n2_; have BK810:=n3_; have GW810:=n4_; have GE810:=n5_; have NB801_810:=n6_; have NB810_801:=n7_; clear n0_ n1_ n2_ n3_ n4_ n5_ n6_ n7_; clear hb hbox hg) | ((with_reducible refine gate_dst (N:=7) rfl ?_); refine boxE_ (N:=7) (cs:=#[.int .i64 0,.int .i64 0]) (t:=84) ?_; intro gb811 hg w13 hbox hb; have n0_:=am_ (Kd.R_below (Kd.R_elderB (kr_ HO805.out) gb811 (Nat.le_of_eq hg.symm)) hb); have n1_:=am_ (bb_ BK801.out hb); have n2_:=am_ (bb_ BK810.out hb); have n3_:=am_ (below_step (bl2_ HB.out GE801.out GE810.out) hb); have n4_:=am_ (hbox); have n5_:=am_ ((bs2_ hg HB.out GE801.out GE810.out:w.heap.size ≤ gb811)); have n6_:=am_ ((bs2_ hg HB.out GE801.out GE810.out:w.heap.size ≤ gb811)); have n7_:=am_ ((nl_ hg BK801.out:gb801 ≠ gb811)); have n8_:=am_ ((ng_ hg BK801.out:gb811 ≠ gb801)); have n9_:=am_ ((nl_ hg BK810.out:gb810 ≠ gb811)); have n10_:=am_ ((ng_ hg BK810.out:gb811 ≠ gb810)); clear HO805; clear BK801; clear BK810; clear HB; have HO805:=n0_; have BK801:=n1_; have BK810:=n2_; have HB:=n3_; have BK811:=n4_; have GW811:=n5_; have GE811:=n6_; have NB801_811:=n7_; have NB811_801:=n8_; have NB810_811:=n9_; have NB811_810:=n10_; clear n0_ n1_ n2_ n3_ n4_ n5_ n6_ n7_ n8_ n9_ n10_; clear hb hbox hg; have hnb14:=NB810_801.out; have hnc14:=NB801_810.out; have hnb15:=NB810_811.out; have hnc15:=NB811_810.out; have hcz16_0:w13.cell? ⟨gb810,0,none⟩ = some (.int .i64 0):=(bc_ BK810.out 0).trans rfl; have hcz16_1:w13.cell? ⟨gb810,1,none⟩ = some (.int .i64 0):=(bc_ BK810.out 1).trans rfl; have hfz16_0:=bz_ BK810.out 0; have hfz16_1:=bz_ BK810.out 1; have hnb17:=NB811_801.out; have hnc17:=NB801_811.out; have hcz18_0:w13.cell? ⟨gb811,0,none⟩ = some (.int .i64 0):=(bc_ BK811.out 0).trans rfl; have hcz18_1:w13.cell? ⟨gb811,1,none⟩ = some (.int .i64 0):=(bc_ BK811.out 1).trans rfl; have hfz18_0:=bz_ BK811.out 0; have hfz18_1:=bz_ BK811.out 1) | (go_at_call 63; (with_reducible refine (spec_fiGrid.calls (wrap64 (t808 - t806)) (wrap64 (t809 - t807)) true _ A5.out).mono ?_); rintro e w' ⟨rfl,⟨nd,rfl⟩⟩; (try first | exact ⟨rfl,_,World.drewN_drewN _ _ _⟩ | exact ⟨rfl,_,Eq.trans (World.drewN_drewN _ _ _) (congrArg (World.drewN _) (Nat.add_assoc _ _ _))⟩)) | (go_at_call 64; (with_reducible refine (spec_liDraw.calls k (wrap64 (t808 - t806)) (wrap64 (t809 - t807)) (wrap64 (-t806)) (wrap64 (-t807)) a0 t813 t814 t815 t818 t821 _ A7.out).mono ?_); rintro e w19 ⟨v816,v819,rfl,ho0,ho1,hb⟩; have n0_:=am_ (Kd.R_below (by (with_reducible repeat (first | apply Kd.R_alloc | apply Kd.R_drewN | apply Kd.R_drew)); exact (Kd.R_mono (Kd.R_mono (Kd.R_far (p:=⟨gb811,1,none⟩) (Kd.R_far (p:=⟨gb811,0,none⟩) (Kd.R_far (p:=⟨gb810,1,none⟩) (Kd.R_far (p:=⟨gb810,0,none⟩) (Kd.R_mono (Kd.R_mono HO805.out (fun k_ hk => (⟨hk,hk.1.2⟩:_ ∧ k_ ≠ gb810))) (fun k_ hk => (⟨hk,hk.1.2⟩:_ ∧ k_ ≠ gb811))) (fun _ hk => hk.1.2) (.int .i64 t806)) (fun _ hk => hk.1.2) (.int .i64 t807)) (fun _ hk => hk.2) (.int .i64 t808)) (fun _ hk => hk.2) (.int .i64 t809)) (fun _ h_ => h_.1)) (fun _ h_ => h_.1))) hb); have n1_:=am_ (Kd.R_lower ho0 (below_size (bl3_ HB.out GE801.out GE810.out GE811.out))); have n2_:=am_ (Kd.R_lower ho1 (below_size (bl3_ HB.out GE801.out GE810.out GE811.out))); have n3_:=am_ (blk_below (g:=gb801) (o:=.cells #[.int .i64 0,.int .i64 0,.slice none 0 0,.slice none 0 0] 36 (0,0)) (bf4_ NB801_811.out NB801_811.out NB801_810.out NB801_810.out BK801.out) hb); have n4_:=am_ (blk_below (g:=gb810) (o:=.cells #[.int .i64 t806,.int .i64 t807] 84 (0,0)) (by (with_reducible repeat (first | refine blk_drewN ?_ _ | refine blk_drew ?_ | refine blk_alloc ?_ _)); refine blk_far ?_ NB810_811.out _; (with_reducible repeat (first | refine blk_drewN ?_ _ | refine blk_drew ?_ | refine blk_alloc ?_ _)); refine blk_far ?_ NB810_811.out _; (with_reducible repeat (first | refine blk_drewN ?_ _ | refine blk_drew ?_ | refine blk_alloc ?_ _)); refine blk_put (cs:=#[.int .i64 t806,.int .i64 0]) ?_ 1 _ rfl; (with_reducible repeat (first | refine blk_drewN ?_ _ | refine blk_drew ?_ | refine blk_alloc ?_ _)); refine blk_put (cs:=#[.int .i64 0,.int .i64 0]) ?_ 0 _ rfl; (with_reducible repeat (first | refine blk_drewN ?_ _ | refine blk_drew ?_ | refine blk_alloc ?_ _)); exact BK810.out) hb); have n5_:=am_ (blk_below (g:=gb811) (o:=.cells #[.int .i64 t808,.int .i64 t809] 84 (0,0)) (by (with_reducible repeat (first | refine blk_drewN ?_ _ | refine blk_drew ?_ | refine blk_alloc ?_ _)); refine blk_put (cs:=#[.int .i64 t808,.int .i64 0]) ?_ 1 _ rfl; (with_reducible repeat (first | refine blk_drewN ?_ _ | refine blk_drew ?_ | refine blk_alloc ?_ _)); refine blk_put (cs:=#[.int .i64 0,.int .i64 0]) ?_ 0 _ rfl; (with_reducible repeat (first | refine blk_drewN ?_ _ | refine blk_drew ?_ | refine blk_alloc ?_ _)); refine blk_far ?_ NB811_810.out _; (with_reducible repeat (first | refine blk_drewN ?_ _ | refine blk_drew ?_ | refine blk_alloc ?_ _)); refine blk_far ?_ NB811_810.out _; (with_reducible repeat (first | refine blk_drewN ?_ _ | refine blk_drew ?_ | refine blk_alloc ?_ _)); exact BK811.out) hb); have n6_:=am_ (below_step (bl3_ HB.out GE801.out GE810.out GE811.out) hb); clear HO805; clear BK801; clear BK810; clear BK811; clear HB; have HO805:=n0_; have HO817:=n1_; have HO820:=n2_; have BK801:=n3_; have BK810:=n4_; have BK811:=n5_; have HB:=n6_; clear n0_ n1_ n2_ n3_ n4_ n5_ n6_; (try clear hb); (try clear hb2); (try clear hk); (try clear hi); (try clear ho0); (try clear ho1); have hcz20_0:w19.cell? ⟨gb801,0,none⟩ = some (.int .i64 0):=(bc_ BK801.out 0).trans rfl; have hcz20_1:w19.cell? ⟨gb801,1,none⟩ = some (.int .i64 0):=(bc_ BK801.out 1).trans rfl; have hcz20_2:w19.cell? ⟨gb801,2,none⟩ = some (.slice none 0 0):=(bc_ BK801.out 2).trans rfl; have hcz20_3:w19.cell? ⟨gb801,3,none⟩ = some (.slice none 0 0):=(bc_ BK801.out 3).trans rfl; have hfz20_0:=bz_ BK801.out 0; have hfz20_1:=bz_ BK801.out 1; have hfz20_2:=bz_ BK801.out 2; have hfz20_3:=bz_ BK801.out 3; obtain ⟨Ao21,co21,eo21⟩:=Kd.R_slice HO817.out; subst eo21; obtain ⟨Ao22,co22,eo22⟩:=Kd.R_slice HO820.out; subst eo22))
   repeat (go_quiet (first | ((with_reducible refine gate_dst (N:=2) rfl ?_); refine boxE_ (N:=2) (cs:=#[.int .i64 0,.int .i64 0,.slice none 0 0,.slice none 0 0]) (t:=36) ?_; intro gb801 hg w8 hbox hb; have n0_:=am_ (below_step (bl0_ HB.out) hb); have n1_:=am_ (hbox); have n2_:=am_ ((bs0_ hg HB.out:w.heap.size ≤ gb801)); have n3_:=am_ ((bs0_ hg HB.out:w.heap.size ≤ gb801)); clear HB; have HB:=n0_; have BK801:=n1_; have GW801:=n2_; have GE801:=n3_; clear n0_ n1_ n2_ n3_; clear hb hbox hg) | (go_at_call 61; (with_reducible refine (spec_loCorners.calls k a0 t802 true _ A2.out).mono ?_); rintro e w9 ⟨v804,rfl,ho0,hb⟩; have n0_:=am_ (Kd.R_lower ho0 (below_size (bl1_ HB.out GE801.out))); have n1_:=am_ (bb_ BK801.out hb); have n2_:=am_ (below_step (bl1_ HB.out GE801.out) hb); clear BK801; clear HB; have HO805:=n0_; have BK801:=n1_; have HB:=n2_; clear n0_ n1_ n2_; (try clear hb); (try clear hb2); (try clear hk); (try clear hi); (try clear ho0); obtain ⟨Ao10,co10,eo10⟩:=Kd.R_slice HO805.out; subst eo10) | (go_at_call 62; (with_reducible refine (spec_loBox.calls k _ _ t802 t806 t807 t808 t809 _ ?side1 ?side2 A4.out).mono ?_); (case side1 => repeat (first | exact (Kd.R_reads' HO805.out).2.2 | (with_reducible refine Kd.C_alloc ?_ _) | (with_reducible refine Kd.C_drewN ?_ _) | (with_reducible refine Kd.C_drew ?_))); (case side2 => exact (Kd.R_reads' HO805.out).2.1); rintro e w11 ⟨rfl,hb⟩; have n0_:=am_ (Kd.R_below (kr_ HO805.out) hb); have n1_:=am_ (bb_ BK801.out hb); have n2_:=am_ (below_step (bl1_ HB.out GE801.out) hb); clear HO805; clear BK801; clear HB; have HO805:=n0_; have BK801:=n1_; have HB:=n2_; clear n0_ n1_ n2_; (try clear hb); (try clear hb2); (try clear hk); (try clear hi)) | ((with_reducible refine gate_dst (N:=6) rfl ?_); refine boxE_ (N:=6) (cs:=#[.int .i64 0,.int .i64 0]) (t:=84) ?_; intro gb810 hg w12 hbox hb; have n0_:=am_ (Kd.R_below (Kd.R_elderB (kr_ HO805.out) gb810 (Nat.le_of_eq hg.symm)) hb); have n1_:=am_ (bb_ BK801.out hb); have n2_:=am_ (below_step (bl1_ HB.out GE801.out) hb); have n3_:=am_ (hbox); have n4_:=am_ ((bs1_ hg HB.out GE801.out:w.heap.size ≤ gb810)); have n5_:=am_ ((bs1_ hg HB.out GE801.out:w.heap.size ≤ gb810)); have n6_:=am_ ((nl_ hg BK801.out:gb801 ≠ gb810)); have n7_:=am_ ((ng_ hg BK801.out:gb810 ≠ gb801)); clear HO805; clear BK801; clear HB; have HO805:=n0_; have BK801:=n1_; have HB:=n2_; have BK810:=n3_; have GW810:=n4_; have GE810:=n5_; have NB801_810:=n6_; have NB810_801:=n7_; clear n0_ n1_ n2_ n3_ n4_ n5_ n6_ n7_; clear hb hbox hg) | ((with_reducible refine gate_dst (N:=7) rfl ?_); refine boxE_ (N:=7) (cs:=#[.int .i64 0,.int .i64 0]) (t:=84) ?_; intro gb811 hg w13 hbox hb; have n0_:=am_ (Kd.R_below (Kd.R_elderB (kr_ HO805.out) gb811 (Nat.le_of_eq hg.symm)) hb); have n1_:=am_ (bb_ BK801.out hb); have n2_:=am_ (bb_ BK810.out hb); have n3_:=am_ (below_step (bl2_ HB.out GE801.out GE810.out) hb); have n4_:=am_ (hbox); have n5_:=am_ ((bs2_ hg HB.out GE801.out GE810.out:w.heap.size ≤ gb811)); have n6_:=am_ ((bs2_ hg HB.out GE801.out GE810.out:w.heap.size ≤ gb811)); have n7_:=am_ ((nl_ hg BK801.out:gb801 ≠ gb811)); have n8_:=am_ ((ng_ hg BK801.out:gb811 ≠ gb801)); have n9_:=am_ ((nl_ hg BK810.out:gb810 ≠ gb811)); have n10_:=am_ ((ng_ hg BK810.out:gb811 ≠ gb810)); clear HO805; clear BK801; clear BK810; clear HB; have HO805:=n0_; have BK801:=n1_; have BK810:=n2_; have HB:=n3_; have BK811:=n4_; have GW811:=n5_; have GE811:=n6_; have NB801_811:=n7_; have NB811_801:=n8_; have NB810_811:=n9_; have NB811_810:=n10_; clear n0_ n1_ n2_ n3_ n4_ n5_ n6_ n7_ n8_ n9_ n10_; clear hb hbox hg; have hnb14:=NB810_801.out; have hnc14:=NB801_810.out; have hnb15:=NB810_811.out; have hnc15:=NB811_810.out; have hcz16_0:w13.cell? ⟨gb810,0,none⟩ = some (.int .i64 0):=(bc_ BK810.out 0).trans rfl; have hcz16_1:w13.cell? ⟨gb810,1,none⟩ = some (.int .i64 0):=(bc_ BK810.out 1).trans rfl; have hfz16_0:=bz_ BK810.out 0; have hfz16_1:=bz_ BK810.out 1; have hnb17:=NB811_801.out; have hnc17:=NB801_811.out; have hcz18_0:w13.cell? ⟨gb811,0,none⟩ = some (.int .i64 0):=(bc_ BK811.out 0).trans rfl; have hcz18_1:w13.cell? ⟨gb811,1,none⟩ = some (.int .i64 0):=(bc_ BK811.out 1).trans rfl; have hfz18_0:=bz_ BK811.out 0; have hfz18_1:=bz_ BK811.out 1) | (go_at_call 63; (with_reducible refine (spec_fiGrid.calls (wrap64 (t808 - t806)) (wrap64 (t809 - t807)) true _ A5.out).mono ?_); rintro e w' ⟨rfl,⟨nd,rfl⟩⟩; (try first | exact ⟨rfl,_,World.drewN_drewN _ _ _⟩ | exact ⟨rfl,_,Eq.trans (World.drewN_drewN _ _ _) (congrArg (World.drewN _) (Nat.add_assoc _ _ _))⟩)) | (go_at_call 64; (with_reducible refine (spec_liDraw.calls k (wrap64 (t808 - t806)) (wrap64 (t809 - t807)) (wrap64 (-t806)) (wrap64 (-t807)) a0 t813 t814 t815 t818 t821 _ A7.out).mono ?_); rintro e w19 ⟨v816,v819,rfl,ho0,ho1,hb⟩; have n0_:=am_ (Kd.R_below (by (with_reducible repeat (first | apply Kd.R_alloc | apply Kd.R_drewN | apply Kd.R_drew)); exact (Kd.R_mono (Kd.R_mono (Kd.R_far (p:=⟨gb811,1,none⟩) (Kd.R_far (p:=⟨gb811,0,none⟩) (Kd.R_far (p:=⟨gb810,1,none⟩) (Kd.R_far (p:=⟨gb810,0,none⟩) (Kd.R_mono (Kd.R_mono HO805.out (fun k_ hk => (⟨hk,hk.1.2⟩:_ ∧ k_ ≠ gb810))) (fun k_ hk => (⟨hk,hk.1.2⟩:_ ∧ k_ ≠ gb811))) (fun _ hk => hk.1.2) (.int .i64 t806)) (fun _ hk => hk.1.2) (.int .i64 t807)) (fun _ hk => hk.2) (.int .i64 t808)) (fun _ hk => hk.2) (.int .i64 t809)) (fun _ h_ => h_.1)) (fun _ h_ => h_.1))) hb); have n1_:=am_ (Kd.R_lower ho0 (below_size (bl3_ HB.out GE801.out GE810.out GE811.out))); have n2_:=am_ (Kd.R_lower ho1 (below_size (bl3_ HB.out GE801.out GE810.out GE811.out))); have n3_:=am_ (blk_below (g:=gb801) (o:=.cells #[.int .i64 0,.int .i64 0,.slice none 0 0,.slice none 0 0] 36 (0,0)) (bf4_ NB801_811.out NB801_811.out NB801_810.out NB801_810.out BK801.out) hb); have n4_:=am_ (blk_below (g:=gb810) (o:=.cells #[.int .i64 t806,.int .i64 t807] 84 (0,0)) (by (with_reducible repeat (first | refine blk_drewN ?_ _ | refine blk_drew ?_ | refine blk_alloc ?_ _)); refine blk_far ?_ NB810_811.out _; (with_reducible repeat (first | refine blk_drewN ?_ _ | refine blk_drew ?_ | refine blk_alloc ?_ _)); refine blk_far ?_ NB810_811.out _; (with_reducible repeat (first | refine blk_drewN ?_ _ | refine blk_drew ?_ | refine blk_alloc ?_ _)); refine blk_put (cs:=#[.int .i64 t806,.int .i64 0]) ?_ 1 _ rfl; (with_reducible repeat (first | refine blk_drewN ?_ _ | refine blk_drew ?_ | refine blk_alloc ?_ _)); refine blk_put (cs:=#[.int .i64 0,.int .i64 0]) ?_ 0 _ rfl; (with_reducible repeat (first | refine blk_drewN ?_ _ | refine blk_drew ?_ | refine blk_alloc ?_ _)); exact BK810.out) hb); have n5_:=am_ (blk_below (g:=gb811) (o:=.cells #[.int .i64 t808,.int .i64 t809] 84 (0,0)) (by (with_reducible repeat (first | refine blk_drewN ?_ _ | refine blk_drew ?_ | refine blk_alloc ?_ _)); refine blk_put (cs:=#[.int .i64 t808,.int .i64 0]) ?_ 1 _ rfl; (with_reducible repeat (first | refine blk_drewN ?_ _ | refine blk_drew ?_ | refine blk_alloc ?_ _)); refine blk_put (cs:=#[.int .i64 0,.int .i64 0]) ?_ 0 _ rfl; (with_reducible repeat (first | refine blk_drewN ?_ _ | refine blk_drew ?_ | refine blk_alloc ?_ _)); refine blk_far ?_ NB811_810.out _; (with_reducible repeat (first | refine blk_drewN ?_ _ | refine blk_drew ?_ | refine blk_alloc ?_ _)); refine blk_far ?_ NB811_810.out _; (with_reducible repeat (first | refine blk_drewN ?_ _ | refine blk_drew ?_ | refine blk_alloc ?_ _)); exact BK811.out) hb); have n6_:=am_ (below_step (bl3_ HB.out GE801.out GE810.out GE811.out) hb); clear HO805; clear BK801; clear BK810; clear BK811; clear HB; have HO805:=n0_; have HO817:=n1_; have HO820:=n2_; have BK801:=n3_; have BK810:=n4_; have BK811:=n5_; have HB:=n6_; clear n0_ n1_ n2_ n3_ n4_ n5_ n6_; (try clear hb); (try clear hb2); (try clear hk); (try clear hi); (try clear ho0); (try clear ho1); have hcz20_0:w19.cell? ⟨gb801,0,none⟩ = some (.int .i64 0):=(bc_ BK801.out 0).trans rfl; have hcz20_1:w19.cell? ⟨gb801,1,none⟩ = some (.int .i64 0):=(bc_ BK801.out 1).trans rfl; have hcz20_2:w19.cell? ⟨gb801,2,none⟩ = some (.slice none 0 0):=(bc_ BK801.out 2).trans rfl; have hcz20_3:w19.cell? ⟨gb801,3,none⟩ = some (.slice none 0 0):=(bc_ BK801.out 3).trans rfl; have hfz20_0:=bz_ BK801.out 0; have hfz20_1:=bz_ BK801.out 1; have hfz20_2:=bz_ BK801.out 2; have hfz20_3:=bz_ BK801.out 3; obtain ⟨Ao21,co21,eo21⟩:=Kd.R_slice HO817.out; subst eo21; obtain ⟨Ao22,co22,eo22⟩:=Kd.R_slice HO820.out; subst eo22)); try go_wp2_with (first | ((with_reducible refine gate_dst (N:=2) rfl ?_); refine boxE_ (N:=2) (cs:=#[.int .i64 0,.int .i64 0,.slice none 0 0,.slice none 0 0]) (t:=36) ?_; intro gb801 hg w8 hbox hb; have n0_:=am_ (below_step (bl0_ HB.out) hb); have n1_:=am_ (hbox); have n2_:=am_ ((bs0_ hg HB.out:w.heap.size ≤ gb801)); have n3_:=am_ ((bs0_ hg HB.out:w.heap.size ≤ gb801)); clear HB; have HB:=n0_; have BK801:=n1_; have GW801:=n2_; have GE801:=n3_; clear n0_ n1_ n2_ n3_; clear hb hbox hg) | (go_at_call 61; (with_reducible refine (spec_loCorners.calls k a0 t802 true _ A2.out).mono ?_); rintro e w9 ⟨v804,rfl,ho0,hb⟩; have n0_:=am_ (Kd.R_lower ho0 (below_size (bl1_ HB.out GE801.out))); have n1_:=am_ (bb_ BK801.out hb); have n2_:=am_ (below_step (bl1_ HB.out GE801.out) hb); clear BK801; clear HB; have HO805:=n0_; have BK801:=n1_; have HB:=n2_; clear n0_ n1_ n2_; (try clear hb); (try clear hb2); (try clear hk); (try clear hi); (try clear ho0); obtain ⟨Ao10,co10,eo10⟩:=Kd.R_slice HO805.out; subst eo10) | (go_at_call 62; (with_reducible refine (spec_loBox.calls k _ _ t802 t806 t807 t808 t809 _ ?side1 ?side2 A4.out).mono ?_); (case side1 => repeat (first | exact (Kd.R_reads' HO805.out).2.2 | (with_reducible refine Kd.C_alloc ?_ _) | (with_reducible refine Kd.C_drewN ?_ _) | (with_reducible refine Kd.C_drew ?_))); (case side2 => exact (Kd.R_reads' HO805.out).2.1); rintro e w11 ⟨rfl,hb⟩; have n0_:=am_ (Kd.R_below (kr_ HO805.out) hb); have n1_:=am_ (bb_ BK801.out hb); have n2_:=am_ (below_step (bl1_ HB.out GE801.out) hb); clear HO805; clear BK801; clear HB; have HO805:=n0_; have BK801:=n1_; have HB:=n2_; clear n0_ n1_ n2_; (try clear hb); (try clear hb2); (try clear hk); (try clear hi)) | ((with_reducible refine gate_dst (N:=6) rfl ?_); refine boxE_ (N:=6) (cs:=#[.int .i64 0,.int .i64 0]) (t:=84) ?_; intro gb810 hg w12 hbox hb; have n0_:=am_ (Kd.R_below (Kd.R_elderB (kr_ HO805.out) gb810 (Nat.le_of_eq hg.symm)) hb); have n1_:=am_ (bb_ BK801.out hb); have n2_:=am_ (below_step (bl1_ HB.out GE801.out) hb); have n3_:=am_ (hbox); have n4_:=am_ ((bs1_ hg HB.out GE801.out:w.heap.size ≤ gb810)); have n5_:=am_ ((bs1_ hg HB.out GE801.out:w.heap.size ≤ gb810)); have n6_:=am_ ((nl_ hg BK801.out:gb801 ≠ gb810)); have n7_:=am_ ((ng_ hg BK801.out:gb810 ≠ gb801)); clear HO805; clear BK801; clear HB; have HO805:=n0_; have BK801:=n1_; have HB:=n2_; have BK810:=n3_; have GW810:=n4_; have GE810:=n5_; have NB801_810:=n6_; have NB810_801:=n7_; clear n0_ n1_ n2_ n3_ n4_ n5_ n6_ n7_; clear hb hbox hg) | ((with_reducible refine gate_dst (N:=7) rfl ?_); refine boxE_ (N:=7) (cs:=#[.int .i64 0,.int .i64 0]) (t:=84) ?_; intro gb811 hg w13 hbox hb; have n0_:=am_ (Kd.R_below (Kd.R_elderB (kr_ HO805.out) gb811 (Nat.le_of_eq hg.symm)) hb); have n1_:=am_ (bb_ BK801.out hb); have n2_:=am_ (bb_ BK810.out hb); have n3_:=am_ (below_step (bl2_ HB.out GE801.out GE810.out) hb); have n4_:=am_ (hbox); have n5_:=am_ ((bs2_ hg HB.out GE801.out GE810.out:w.heap.size ≤ gb811)); have n6_:=am_ ((bs2_ hg HB.out GE801.out GE810.out:w.heap.size ≤ gb811)); have n7_:=am_ ((nl_ hg BK801.out:gb801 ≠ gb811)); have n8_:=am_ ((ng_ hg BK801.out:gb811 ≠ gb801)); have n9_:=am_ ((nl_ hg BK810.out:gb810 ≠ gb811)); have n10_:=am_ ((ng_ hg BK810.out:gb811 ≠ gb810)); clear HO805; clear BK801; clear BK810; clear HB; have HO805:=n0_; have BK801:=n1_; have BK810:=n2_; have HB:=n3_; have BK811:=n4_; have GW811:=n5_; have GE811:=n6_; have NB801_811:=n7_; have NB811_801:=n8_; have NB810_811:=n9_; have NB811_810:=n10_; clear n0_ n1_ n2_ n3_ n4_ n5_ n6_ n7_ n8_ n9_ n10_; clear hb hbox hg; have hnb14:=NB810_801.out; have hnc14:=NB801_810.out; have hnb15:=NB810_811.out; have hnc15:=NB811_810.out; have hcz16_0:w13.cell? ⟨gb810,0,none⟩ = some (.int .i64 0):=(bc_ BK810.out 0).trans rfl; have hcz16_1:w13.cell? ⟨gb810,1,none⟩ = some (.int .i64 0):=(bc_ BK810.out 1).trans rfl; have hfz16_0:=bz_ BK810.out 0; have hfz16_1:=bz_ BK810.out 1; have hnb17:=NB811_801.out; have hnc17:=NB801_811.out; have hcz18_0:w13.cell? ⟨gb811,0,none⟩ = some (.int .i64 0):=(bc_ BK811.out 0).trans rfl; have hcz18_1:w13.cell? ⟨gb811,1,none⟩ = some (.int .i64 0):=(bc_ BK811.out 1).trans rfl; have hfz18_0:=bz_ BK811.out 0; have hfz18_1:=bz_ BK811.out 1) | (go_at_call 63; (with_reducible refine (spec_fiGrid.calls (wrap64 (t808 - t806)) (wrap64 (t809 - t807)) true _ A5.out).mono ?_); rintro e w' ⟨rfl,⟨nd,rfl⟩⟩; (try first | exact ⟨rfl,_,World.drewN_drewN _ _ _⟩ | exact ⟨rfl,_,Eq.trans (World.drewN_drewN _ _ _) (congrArg (World.drewN _) (Nat.add_assoc _ _ _))⟩)) | (go_at_call 64; (with_reducible refine (spec_liDraw.calls k (wrap64 (t808 - t806)) (wrap64 (t809 - t807)) (wrap64 (-t806)) (wrap64 (-t807)) a0 t813 t814 t815 t818 t821 _ A7.out).mono ?_); rintro e w19 ⟨v816,v819,rfl,ho0,ho1,hb⟩; have n0_:=am_ (Kd.R_below (by (with_reducible repeat (first | apply Kd.R_alloc | apply Kd.R_drewN | apply Kd.R_drew)); exact (Kd.R_mono (Kd.R_mono (Kd.R_far (p:=⟨gb811,1,none⟩) (Kd.R_far (p:=⟨gb811,0,none⟩) (Kd.R_far (p:=⟨gb810,1,none⟩) (Kd.R_far (p:=⟨gb810,0,none⟩) (Kd.R_mono (Kd.R_mono HO805.out (fun k_ hk => (⟨hk,hk.1.2⟩:_ ∧ k_ ≠ gb810))) (fun k_ hk => (⟨hk,hk.1.2⟩:_ ∧ k_ ≠ gb811))) (fun _ hk => hk.1.2) (.int .i64 t806)) (fun _ hk => hk.1.2) (.int .i64 t807)) (fun _ hk => hk.2) (.int .i64 t808)) (fun _ hk => hk.2) (.int .i64 t809)) (fun _ h_ => h_.1)) (fun _ h_ => h_.1))) hb); have n1_:=am_ (Kd.R_lower ho0 (below_size (bl3_ HB.out GE801.out GE810.out GE811.out))); have n2_:=am_ (Kd.R_lower ho1 (below_size (bl3_ HB.out GE801.out GE810.out GE811.out))); have n3_:=am_ (blk_below (g:=gb801) (o:=.cells #[.int .i64 0,.int .i64 0,.slice none 0 0,.slice none 0 0] 36 (0,0)) (bf4_ NB801_811.out NB801_811.out NB801_810.out NB801_810.out BK801.out) hb); have n4_:=am_ (blk_below (g:=gb810) (o:=.cells #[.int .i64 t806,.int .i64 t807] 84 (0,0)) (by (with_reducible repeat (first | refine blk_drewN ?_ _ | refine blk_drew ?_ | refine blk_alloc ?_ _)); refine blk_far ?_ NB810_811.out _; (with_reducible repeat (first | refine blk_drewN ?_ _ | refine blk_drew ?_ | refine blk_alloc ?_ _)); refine blk_far ?_ NB810_811.out _; (with_reducible repeat (first | refine blk_drewN ?_ _ | refine blk_drew ?_ | refine blk_alloc ?_ _)); refine blk_put (cs:=#[.int .i64 t806,.int .i64 0]) ?_ 1 _ rfl; (with_reducible repeat (first | refine blk_drewN ?_ _ | refine blk_drew ?_ | refine blk_alloc ?_ _)); refine blk_put (cs:=#[.int .i64 0,.int .i64 0]) ?_ 0 _ rfl; (with_reducible repeat (first | refine blk_drewN ?_ _ | refine blk_drew ?_ | refine blk_alloc ?_ _)); exact BK810.out) hb); have n5_:=am_ (blk_below (g:=gb811) (o:=.cells #[.int .i64 t808,.int .i64 t809] 84 (0,0)) (by (with_reducible repeat (first | refine blk_drewN ?_ _ | refine blk_drew ?_ | refine blk_alloc ?_ _)); refine blk_put (cs:=#[.int .i64 t808,.int .i64 0]) ?_ 1 _ rfl; (with_reducible repeat (first | refine blk_drewN ?_ _ | refine blk_drew ?_ | refine blk_alloc ?_ _)); refine blk_put (cs:=#[.int .i64 0,.int .i64 0]) ?_ 0 _ rfl; (with_reducible repeat (first | refine blk_drewN ?_ _ | refine blk_drew ?_ | refine blk_alloc ?_ _)); refine blk_far ?_ NB811_810.out _; (with_reducible repeat (first | refine blk_drewN ?_ _ | refine blk_drew ?_ | refine blk_alloc ?_ _)); refine blk_far ?_ NB811_810.out _; (with_reducible repeat (first | refine blk_drewN ?_ _ | refine blk_drew ?_ | refine blk_alloc ?_ _)); exact BK811.out) hb); have n6_:=am_ (below_step (bl3_ HB.out GE801.out GE810.out GE811.out) hb); clear HO805; clear BK801; clear BK810; clear BK811; clear HB; have HO805:=n0_; have HO817:=n1_; have HO820:=n2_; have BK801:=n3_; have BK810:=n4_; have BK811:=n5_; have HB:=n6_; clear n0_ n1_ n2_ n3_ n4_ n5_ n6_; (try clear hb); (try clear hb2); (try clear hk); (try clear hi); (try clear ho0); (try clear ho1); have hcz20_0:w19.cell? ⟨gb801,0,none⟩ = some (.int .i64 0):=(bc_ BK801.out 0).trans rfl; have hcz20_1:w19.cell? ⟨gb801,1,none⟩ = some (.int .i64 0):=(bc_ BK801.out 1).trans rfl; have hcz20_2:w19.cell? ⟨gb801,2,none⟩ = some (.slice none 0 0):=(bc_ BK801.out 2).trans rfl; have hcz20_3:w19.cell? ⟨gb801,3,none⟩ = some (.slice none 0 0):=(bc_ BK801.out 3).trans rfl; have hfz20_0:=bz_ BK801.out 0; have hfz20_1:=bz_ BK801.out 1; have hfz20_2:=bz_ BK801.out 2; have hfz20_3:=bz_ BK801.out 3; obtain ⟨Ao21,co21,eo21⟩:=Kd.R_slice HO817.out; subst eo21; obtain ⟨Ao22,co22,eo22⟩:=Kd.R_slice HO820.out; subst eo22)))
   refine bodyPost_ret (results_ct rfl _ _ gb801 36 #[.int .i64 t813,.int .i64 t814,.slice Ao21 t815.length co21,.slice Ao22 t818.length co22] (0,0) _ rfl (by (with_reducible repeat (first | refine blk_drewN ?_ _ | refine blk_drew ?_ | refine blk_alloc ?_ _)); refine blk_put (cs:=#[.int .i64 t813,.int .i64 t814,.slice Ao21 t815.length co21,.slice none 0 0]) ?_ 3 _ rfl; (with_reducible repeat (first | refine blk_drewN ?_ _ | refine blk_drew ?_ | refine blk_alloc ?_ _)); refine blk_put (cs:=#[.int .i64 t813,.int .i64 t814,.slice none 0 0,.slice none 0 0]) ?_ 2 _ rfl; (with_reducible repeat (first | refine blk_drewN ?_ _ | refine blk_drew ?_ | refine blk_alloc ?_ _)); refine blk_put (cs:=#[.int .i64 t813,.int .i64 0,.slice none 0 0,.slice none 0 0]) ?_ 1 _ rfl; (with_reducible repeat (first | refine blk_drewN ?_ _ | refine blk_drew ?_ | refine blk_alloc ?_ _)); refine blk_put (cs:=#[.int .i64 0,.int .i64 0,.slice none 0 0,.slice none 0 0]) ?_ 0 _ rfl; (with_reducible repeat (first | refine blk_drewN ?_ _ | refine blk_drew ?_ | refine blk_alloc ?_ _)); exact BK801.out) Tryd.underlying36 rfl (by kernel_rfl)) rfl ?_
   exact ⟨_,_,er_,by (with_reducible repeat (first | apply Kd.R_alloc | apply Kd.R_drewN | apply Kd.R_drew)); exact Kd.R_mono (Kd.R_far (p:=⟨gb801,3,none⟩) (Kd.R_far (p:=⟨gb801,2,none⟩) (Kd.R_far (p:=⟨gb801,1,none⟩) (Kd.R_far (p:=⟨gb801,0,none⟩) (Kd.R_types HO817.out BK801.out (by decide)) (fun _ hk => hk.2) (.int .i64 t813)) (fun _ hk => hk.2) (.int .i64 t814)) (fun _ hk => hk.2) (.slice Ao21 t815.length co21)) (fun _ hk => hk.2) (.slice Ao22 t818.length co22)) (fun _ hk => hk.1),by (with_reducible repeat (first | apply Kd.R_alloc | apply Kd.R_drewN | apply Kd.R_drew)); exact Kd.R_mono (Kd.R_far (p:=⟨gb801,3,none⟩) (Kd.R_far (p:=⟨gb801,2,none⟩) (Kd.R_far (p:=⟨gb801,1,none⟩) (Kd.R_far (p:=⟨gb801,0,none⟩) (Kd.R_types HO820.out BK801.out (by decide)) (fun _ hk => hk.2) (.int .i64 t813)) (fun _ hk => hk.2) (.int .i64 t814)) (fun _ hk => hk.2) (.slice Ao21 t815.length co21)) (fun _ hk => hk.2) (.slice Ao22 t818.length co22)) (fun _ hk => hk.1),bl3_ HB.out GE801.out GE810.out GE811.out⟩
  ·replace c6:=Bool.eq_false_iff.mpr c6
   subst c6
   have H1:(some (0,0,([]:List Int),([]:List Int),false)) = some (r1,r2,r3,r4,r5):=by rw [if_neg (show ¬ (false = true) by decide)] at H; exact H
   clear H
   have H:=H1
   clear H1
   simp only [Option.some.injEq,Prod.mk.injEq] at H
   obtain ⟨rfl,rfl,rfl,rfl,rfl⟩:=H
   go_enter Tryd.func26,Tryd.ntmps26
   go_wp2_with (first | ((with_reducible refine gate_dst (N:=2) rfl ?_); refine boxE_ (N:=2) (cs:=#[.int .i64 0,.int .i64 0,.slice none 0 0,.slice none 0 0]) (t:=36) ?_; intro gb801 hg w23 hbox hb; have n0_:=am_ (below_step (bl0_ HB.out) hb); have n1_:=am_ (hbox); have n2_:=am_ ((bs0_ hg HB.out:w.heap.size ≤ gb801)); have n3_:=am_ ((bs0_ hg HB.out:w.heap.size ≤ gb801)); clear HB; have HB:=n0_; have BK801:=n1_; have GW801:=n2_; have GE801:=n3_; clear n0_ n1_ n2_ n3_; clear hb hbox hg) | (go_at_call 61; (with_reducible refine (spec_loCorners.calls k a0 t802 true _ A2.out).mono ?_); rintro e w24 ⟨v804,rfl,ho0,hb⟩; have n0_:=am_ (Kd.R_lower ho0 (below_size (bl1_ HB.out GE801.out))); have n1_:=am_ (bb_ BK801.out hb); have n2_:=am_ (below_step (bl1_ HB.out GE801.out) hb); clear BK801; clear HB; have HO805:=n0_; have BK801:=n1_; have HB:=n2_; clear n0_ n1_ n2_; (try clear hb); (try clear hb2); (try clear hk); (try clear hi); (try clear ho0); obtain ⟨Ao25,co25,eo25⟩:=Kd.R_slice HO805.out; subst eo25) | (go_at_call 62; (with_reducible refine (spec_loBox.calls k _ _ t802 t806 t807 t808 t809 _ ?side1 ?side2 A4.out).mono ?_); (case side1 => repeat (first | exact (Kd.R_reads' HO805.out).2.2 | (with_reducible refine Kd.C_alloc ?_ _) | (with_reducible refine Kd.C_drewN ?_ _) | (with_reducible refine Kd.C_drew ?_))); (case side2 => exact (Kd.R_reads' HO805.out).2.1); rintro e w26 ⟨rfl,hb⟩; have n0_:=am_ (Kd.R_below (kr_ HO805.out) hb); have n1_:=am_ (bb_ BK801.out hb); have n2_:=am_ (below_step (bl1_ HB.out GE801.out) hb); clear HO805; clear BK801; clear HB; have HO805:=n0_; have BK801:=n1_; have HB:=n2_; clear n0_ n1_ n2_; (try clear hb); (try clear hb2); (try clear hk); (try clear hi)) | ((with_reducible refine gate_dst (N:=6) rfl ?_); refine boxE_ (N:=6) (cs:=#[.int .i64 0,.int .i64 0]) (t:=84) ?_; intro gb810 hg w27 hbox hb; have n0_:=am_ (Kd.R_below (Kd.R_elderB (kr_ HO805.out) gb810 (Nat.le_of_eq hg.symm)) hb); have n1_:=am_ (bb_ BK801.out hb); have n2_:=am_ (below_step (bl1_ HB.out GE801.out) hb); have n3_:=am_ (hbox); have n4_:=am_ ((bs1_ hg HB.out GE801.out:w.heap.size ≤ gb810)); have n5_:=am_ ((bs1_ hg HB.out GE801.out:w.heap.size ≤ gb810)); have n6_:=am_ ((nl_ hg BK801.out:gb801 ≠ gb810)); have n7_:=am_ ((ng_ hg BK801.out:gb810 ≠ gb801)); clear HO805; clear BK801; clear HB; have HO805:=n0_; have BK801:=n1_; have HB:=n2_; have BK810:=n3_; have GW810:=n4_; have GE810:=n5_; have NB801_810:=n6_; have NB810_801:=n7_; clear n0_ n1_ n2_ n3_ n4_ n5_ n6_ n7_; clear hb hbox hg) | ((with_reducible refine gate_dst (N:=7) rfl ?_); refine boxE_ (N:=7) (cs:=#[.int .i64 0,.int .i64 0]) (t:=84) ?_; intro gb811 hg w28 hbox hb; have n0_:=am_ (Kd.R_below (Kd.R_elderB (kr_ HO805.out) gb811 (Nat.le_of_eq hg.symm)) hb); have n1_:=am_ (bb_ BK801.out hb); have n2_:=am_ (bb_ BK810.out hb); have n3_:=am_ (below_step (bl2_ HB.out GE801.out GE810.out) hb); have n4_:=am_ (hbox); have n5_:=am_ ((bs2_ hg HB.out GE801.out GE810.out:w.heap.size ≤ gb811)); have n6_:=am_ ((bs2_ hg HB.out GE801.out GE810.out:w.heap.size ≤ gb811)); have n7_:=am_ ((nl_ hg BK801.out:gb801 ≠ gb811)); have n8_:=am_ ((ng_ hg BK801.out:gb811 ≠ gb801)); have n9_:=am_ ((nl_ hg BK810.out:gb810 ≠ gb811)); have n10_:=am_ ((ng_ hg BK810.out:gb811 ≠ gb810)); clear HO805; clear BK801; clear BK810; clear HB; have HO805:=n0_; have BK801:=n1_; have BK810:=n2_; have HB:=n3_; have BK811:=n4_; have GW811:=n5_; have GE811:=n6_; have NB801_811:=n7_; have NB811_801:=n8_; have NB810_811:=n9_; have NB811_810:=n10_; clear n0_ n1_ n2_ n3_ n4_ n5_ n6_ n7_ n8_ n9_ n10_; clear hb hbox hg; have hnb29:=NB810_801.out; have hnc29:=NB801_810.out; have hnb30:=NB810_811.out; have hnc30:=NB811_810.out; have hcz31_0:w28.cell? ⟨gb810,0,none⟩ = some (.int .i64 0):=(bc_ BK810.out 0).trans rfl; have hcz31_1:w28.cell? ⟨gb810,1,none⟩ = some (.int .i64 0):=(bc_ BK810.out 1).trans rfl; have hfz31_0:=bz_ BK810.out 0; have hfz31_1:=bz_ BK810.out 1; have hnb32:=NB811_801.out; have hnc32:=NB801_811.out; have hcz33_0:w28.cell? ⟨gb811,0,none⟩ = some (.int .i64 0):=(bc_ BK811.out 0).trans rfl; have hcz33_1:w28.cell? ⟨gb811,1,none⟩ = some (.int .i64 0):=(bc_ BK811.out 1).trans rfl; have hfz33_0:=bz_ BK811.out 0; have hfz33_1:=bz_ BK811.out 1) | (go_at_call 63; (with_reducible refine (spec_fiGrid.calls (wrap64 (t808 - t806)) (wrap64 (t809 - t807)) false _ A5.out).mono ?_); rintro e w' ⟨rfl,⟨nd,rfl⟩⟩; (try first | exact ⟨rfl,_,World.drewN_drewN _ _ _⟩ | exact ⟨rfl,_,Eq.trans (World.drewN_drewN _ _ _) (congrArg (World.drewN _) (Nat.add_assoc _ _ _))⟩); have hcz34_0:w28.cell? ⟨gb801,0,none⟩ = some (.int .i64 0):=(bc_ BK801.out 0).trans rfl; have hcz34_1:w28.cell? ⟨gb801,1,none⟩ = some (.int .i64 0):=(bc_ BK801.out 1).trans rfl; have hcz34_2:w28.cell? ⟨gb801,2,none⟩ = some (.slice none 0 0):=(bc_ BK801.out 2).trans rfl; have hcz34_3:w28.cell? ⟨gb801,3,none⟩ = some (.slice none 0 0):=(bc_ BK801.out 3).trans rfl; have hfz34_0:=bz_ BK801.out 0; have hfz34_1:=bz_ BK801.out 1; have hfz34_2:=bz_ BK801.out 2; have hfz34_3:=bz_ BK801.out 3))
   repeat (go_quiet (first | ((with_reducible refine gate_dst (N:=2) rfl ?_); refine boxE_ (N:=2) (cs:=#[.int .i64 0,.int .i64 0,.slice none 0 0,.slice none 0 0]) (t:=36) ?_; intro gb801 hg w23 hbox hb; have n0_:=am_ (below_step (bl0_ HB.out) hb); have n1_:=am_ (hbox); have n2_:=am_ ((bs0_ hg HB.out:w.heap.size ≤ gb801)); have n3_:=am_ ((bs0_ hg HB.out:w.heap.size ≤ gb801)); clear HB; have HB:=n0_; have BK801:=n1_; have GW801:=n2_; have GE801:=n3_; clear n0_ n1_ n2_ n3_; clear hb hbox hg) | (go_at_call 61; (with_reducible refine (spec_loCorners.calls k a0 t802 true _ A2.out).mono ?_); rintro e w24 ⟨v804,rfl,ho0,hb⟩; have n0_:=am_ (Kd.R_lower ho0 (below_size (bl1_ HB.out GE801.out))); have n1_:=am_ (bb_ BK801.out hb); have n2_:=am_ (below_step (bl1_ HB.out GE801.out) hb); clear BK801; clear HB; have HO805:=n0_; have BK801:=n1_; have HB:=n2_; clear n0_ n1_ n2_; (try clear hb); (try clear hb2); (try clear hk); (try clear hi); (try clear ho0); obtain ⟨Ao25,co25,eo25⟩:=Kd.R_slice HO805.out; subst eo25) | (go_at_call 62; (with_reducible refine (spec_loBox.calls k _ _ t802 t806 t807 t808 t809 _ ?side1 ?side2 A4.out).mono ?_); (case side1 => repeat (first | exact (Kd.R_reads' HO805.out).2.2 | (with_reducible refine Kd.C_alloc ?_ _) | (with_reducible refine Kd.C_drewN ?_ _) | (with_reducible refine Kd.C_drew ?_))); (case side2 => exact (Kd.R_reads' HO805.out).2.1); rintro e w26 ⟨rfl,hb⟩; have n0_:=am_ (Kd.R_below (kr_ HO805.out) hb); have n1_:=am_ (bb_ BK801.out hb); have n2_:=am_ (below_step (bl1_ HB.out GE801.out) hb); clear HO805; clear BK801; clear HB; have HO805:=n0_; have BK801:=n1_; have HB:=n2_; clear n0_ n1_ n2_; (try clear hb); (try clear hb2); (try clear hk); (try clear hi)) | ((with_reducible refine gate_dst (N:=6) rfl ?_); refine boxE_ (N:=6) (cs:=#[.int .i64 0,.int .i64 0]) (t:=84) ?_; intro gb810 hg w27 hbox hb; have n0_:=am_ (Kd.R_below (Kd.R_elderB (kr_ HO805.out) gb810 (Nat.le_of_eq hg.symm)) hb); have n1_:=am_ (bb_ BK801.out hb); have n2_:=am_ (below_step (bl1_ HB.out GE801.out) hb); have n3_:=am_ (hbox); have n4_:=am_ ((bs1_ hg HB.out GE801.out:w.heap.size ≤ gb810)); have n5_:=am_ ((bs1_ hg HB.out GE801.out:w.heap.size ≤ gb810)); have n6_:=am_ ((nl_ hg BK801.out:gb801 ≠ gb810)); have n7_:=am_ ((ng_ hg BK801.out:gb810 ≠ gb801)); clear HO805; clear BK801; clear HB; have HO805:=n0_; have BK801:=n1_; have HB:=n2_; have BK810:=n3_; have GW810:=n4_; have GE810:=n5_; have NB801_810:=n6_; have NB810_801:=n7_; clear n0_ n1_ n2_ n3_ n4_ n5_ n6_ n7_; clear hb hbox hg) | ((with_reducible refine gate_dst (N:=7) rfl ?_); refine boxE_ (N:=7) (cs:=#[.int .i64 0,.int .i64 0]) (t:=84) ?_; intro gb811 hg w28 hbox hb; have n0_:=am_ (Kd.R_below (Kd.R_elderB (kr_ HO805.out) gb811 (Nat.le_of_eq hg.symm)) hb); have n1_:=am_ (bb_ BK801.out hb); have n2_:=am_ (bb_ BK810.out hb); have n3_:=am_ (below_step (bl2_ HB.out GE801.out GE810.out) hb); have n4_:=am_ (hbox); have n5_:=am_ ((bs2_ hg HB.out GE801.out GE810.out:w.heap.size ≤ gb811)); have n6_:=am_ ((bs2_ hg HB.out GE801.out GE810.out:w.heap.size ≤ gb811)); have n7_:=am_ ((nl_ hg BK801.out:gb801 ≠ gb811)); have n8_:=am_ ((ng_ hg BK801.out:gb811 ≠ gb801)); have n9_:=am_ ((nl_ hg BK810.out:gb810 ≠ gb811)); have n10_:=am_ ((ng_ hg BK810.out:gb811 ≠ gb810)); clear HO805; clear BK801; clear BK810; clear HB; have HO805:=n0_; have BK801:=n1_; have BK810:=n2_; have HB:=n3_; have BK811:=n4_; have GW811:=n5_; have GE811:=n6_; have NB801_811:=n7_; have NB811_801:=n8_; have NB810_811:=n9_; have NB811_810:=n10_; clear n0_ n1_ n2_ n3_ n4_ n5_ n6_ n7_ n8_ n9_ n10_; clear hb hbox hg; have hnb29:=NB810_801.out; have hnc29:=NB801_810.out; have hnb30:=NB810_811.out; have hnc30:=NB811_810.out; have hcz31_0:w28.cell? ⟨gb810,0,none⟩ = some (.int .i64 0):=(bc_ BK810.out 0).trans rfl; have hcz31_1:w28.cell? ⟨gb810,1,none⟩ = some (.int .i64 0):=(bc_ BK810.out 1).trans rfl; have hfz31_0:=bz_ BK810.out 0; have hfz31_1:=bz_ BK810.out 1; have hnb32:=NB811_801.out; have hnc32:=NB801_811.out; have hcz33_0:w28.cell? ⟨gb811,0,none⟩ = some (.int .i64 0):=(bc_ BK811.out 0).trans rfl; have hcz33_1:w28.cell? ⟨gb811,1,none⟩ = some (.int .i64 0):=(bc_ BK811.out 1).trans rfl; have hfz33_0:=bz_ BK811.out 0; have hfz33_1:=bz_ BK811.out 1) | (go_at_call 63; (with_reducible refine (spec_fiGrid.calls (wrap64 (t808 - t806)) (wrap64 (t809 - t807)) false _ A5.out).mono ?_); rintro e w' ⟨rfl,⟨nd,rfl⟩⟩; (try first | exact ⟨rfl,_,World.drewN_drewN _ _ _⟩ | exact ⟨rfl,_,Eq.trans (World.drewN_drewN _ _ _) (congrArg (World.drewN _) (Nat.add_assoc _ _ _))⟩); have hcz34_0:w28.cell? ⟨gb801,0,none⟩ = some (.int .i64 0):=(bc_ BK801.out 0).trans rfl; have hcz34_1:w28.cell? ⟨gb801,1,none⟩ = some (.int .i64 0):=(bc_ BK801.out 1).trans rfl; have hcz34_2:w28.cell? ⟨gb801,2,none⟩ = some (.slice none 0 0):=(bc_ BK801.out 2).trans rfl; have hcz34_3:w28.cell? ⟨gb801,3,none⟩ = some (.slice none 0 0):=(bc_ BK801.out 3).trans rfl; have hfz34_0:=bz_ BK801.out 0; have hfz34_1:=bz_ BK801.out 1; have hfz34_2:=bz_ BK801.out 2; have hfz34_3:=bz_ BK801.out 3)); try go_wp2_with (first | ((with_reducible refine gate_dst (N:=2) rfl ?_); refine boxE_ (N:=2) (cs:=#[.int .i64 0,.int .i64 0,.slice none 0 0,.slice none 0 0]) (t:=36) ?_; intro gb801 hg w23 hbox hb; have n0_:=am_ (below_step (bl0_ HB.out) hb); have n1_:=am_ (hbox); have n2_:=am_ ((bs0_ hg HB.out:w.heap.size ≤ gb801)); have n3_:=am_ ((bs0_ hg HB.out:w.heap.size ≤ gb801)); clear HB; have HB:=n0_; have BK801:=n1_; have GW801:=n2_; have GE801:=n3_; clear n0_ n1_ n2_ n3_; clear hb hbox hg) | (go_at_call 61; (with_reducible refine (spec_loCorners.calls k a0 t802 true _ A2.out).mono ?_); rintro e w24 ⟨v804,rfl,ho0,hb⟩; have n0_:=am_ (Kd.R_lower ho0 (below_size (bl1_ HB.out GE801.out))); have n1_:=am_ (bb_ BK801.out hb); have n2_:=am_ (below_step (bl1_ HB.out GE801.out) hb); clear BK801; clear HB; have HO805:=n0_; have BK801:=n1_; have HB:=n2_; clear n0_ n1_ n2_; (try clear hb); (try clear hb2); (try clear hk); (try clear hi); (try clear ho0); obtain ⟨Ao25,co25,eo25⟩:=Kd.R_slice HO805.out; subst eo25) | (go_at_call 62; (with_reducible refine (spec_loBox.calls k _ _ t802 t806 t807 t808 t809 _ ?side1 ?side2 A4.out).mono ?_); (case side1 => repeat (first | exact (Kd.R_reads' HO805.out).2.2 | (with_reducible refine Kd.C_alloc ?_ _) | (with_reducible refine Kd.C_drewN ?_ _) | (with_reducible refine Kd.C_drew ?_))); (case side2 => exact (Kd.R_reads' HO805.out).2.1); rintro e w26 ⟨rfl,hb⟩; have n0_:=am_ (Kd.R_below (kr_ HO805.out) hb); have n1_:=am_ (bb_ BK801.out hb); have n2_:=am_ (below_step (bl1_ HB.out GE801.out) hb); clear HO805; clear BK801; clear HB; have HO805:=n0_; have BK801:=n1_; have HB:=n2_; clear n0_ n1_ n2_; (try clear hb); (try clear hb2); (try clear hk); (try clear hi)) | ((with_reducible refine gate_dst (N:=6) rfl ?_); refine boxE_ (N:=6) (cs:=#[.int .i64 0,.int .i64 0]) (t:=84) ?_; intro gb810 hg w27 hbox hb; have n0_:=am_ (Kd.R_below (Kd.R_elderB (kr_ HO805.out) gb810 (Nat.le_of_eq hg.symm)) hb); have n1_:=am_ (bb_ BK801.out hb); have n2_:=am_ (below_step (bl1_ HB.out GE801.out) hb); have n3_:=am_ (hbox); have n4_:=am_ ((bs1_ hg HB.out GE801.out:w.heap.size ≤ gb810)); have n5_:=am_ ((bs1_ hg HB.out GE801.out:w.heap.size ≤ gb810)); have n6_:=am_ ((nl_ hg BK801.out:gb801 ≠ gb810)); have n7_:=am_ ((ng_ hg BK801.out:gb810 ≠ gb801)); clear HO805; clear BK801; clear HB; have HO805:=n0_; have BK801:=n1_; have HB:=n2_; have BK810:=n3_; have GW810:=n4_; have GE810:=n5_; have NB801_810:=n6_; have NB810_801:=n7_; clear n0_ n1_ n2_ n3_ n4_ n5_ n6_ n7_; clear hb hbox hg) | ((with_reducible refine gate_dst (N:=7) rfl ?_); refine boxE_ (N:=7) (cs:=#[.int .i64 0,.int .i64 0]) (t:=84) ?_; intro gb811 hg w28 hbox hb; have n0_:=am_ (Kd.R_below (Kd.R_elderB (kr_ HO805.out) gb811 (Nat.le_of_eq hg.symm)) hb); have n1_:=am_ (bb_ BK801.out hb); have n2_:=am_ (bb_ BK810.out hb); have n3_:=am_ (below_step (bl2_ HB.out GE801.out GE810.out) hb); have n4_:=am_ (hbox); have n5_:=am_ ((bs2_ hg HB.out GE801.out GE810.out:w.heap.size ≤ gb811)); have n6_:=am_ ((bs2_ hg HB.out GE801.out GE810.out:w.heap.size ≤ gb811)); have n7_:=am_ ((nl_ hg BK801.out:gb801 ≠ gb811)); have n8_:=am_ ((ng_ hg BK801.out:gb811 ≠ gb801)); have n9_:=am_ ((nl_ hg BK810.out:gb810 ≠ gb811)); have n10_:=am_ ((ng_ hg BK810.out:gb811 ≠ gb810)); clear HO805; clear BK801; clear BK810; clear HB; have HO805:=n0_; have BK801:=n1_; have BK810:=n2_; have HB:=n3_; have BK811:=n4_; have GW811:=n5_; have GE811:=n6_; have NB801_811:=n7_; have NB811_801:=n8_; have NB810_811:=n9_; have NB811_810:=n10_; clear n0_ n1_ n2_ n3_ n4_ n5_ n6_ n7_ n8_ n9_ n10_; clear hb hbox hg; have hnb29:=NB810_801.out; have hnc29:=NB801_810.out; have hnb30:=NB810_811.out; have hnc30:=NB811_810.out; have hcz31_0:w28.cell? ⟨gb810,0,none⟩ = some (.int .i64 0):=(bc_ BK810.out 0).trans rfl; have hcz31_1:w28.cell? ⟨gb810,1,none⟩ = some (.int .i64 0):=(bc_ BK810.out 1).trans rfl; have hfz31_0:=bz_ BK810.out 0; have hfz31_1:=bz_ BK810.out 1; have hnb32:=NB811_801.out; have hnc32:=NB801_811.out; have hcz33_0:w28.cell? ⟨gb811,0,none⟩ = some (.int .i64 0):=(bc_ BK811.out 0).trans rfl; have hcz33_1:w28.cell? ⟨gb811,1,none⟩ = some (.int .i64 0):=(bc_ BK811.out 1).trans rfl; have hfz33_0:=bz_ BK811.out 0; have hfz33_1:=bz_ BK811.out 1) | (go_at_call 63; (with_reducible refine (spec_fiGrid.calls (wrap64 (t808 - t806)) (wrap64 (t809 - t807)) false _ A5.out).mono ?_); rintro e w' ⟨rfl,⟨nd,rfl⟩⟩; (try first | exact ⟨rfl,_,World.drewN_drewN _ _ _⟩ | exact ⟨rfl,_,Eq.trans (World.drewN_drewN _ _ _) (congrArg (World.drewN _) (Nat.add_assoc _ _ _))⟩); have hcz34_0:w28.cell? ⟨gb801,0,none⟩ = some (.int .i64 0):=(bc_ BK801.out 0).trans rfl; have hcz34_1:w28.cell? ⟨gb801,1,none⟩ = some (.int .i64 0):=(bc_ BK801.out 1).trans rfl; have hcz34_2:w28.cell? ⟨gb801,2,none⟩ = some (.slice none 0 0):=(bc_ BK801.out 2).trans rfl; have hcz34_3:w28.cell? ⟨gb801,3,none⟩ = some (.slice none 0 0):=(bc_ BK801.out 3).trans rfl; have hfz34_0:=bz_ BK801.out 0; have hfz34_1:=bz_ BK801.out 1; have hfz34_2:=bz_ BK801.out 2; have hfz34_3:=bz_ BK801.out 3)))
   refine bodyPost_ret (results_ct rfl _ _ gb801 36 #[.int .i64 0,.int .i64 0,.slice none 0 0,.slice none 0 0] (0,0) _ rfl (by (with_reducible repeat (first | refine blk_drewN ?_ _ | refine blk_drew ?_ | refine blk_alloc ?_ _)); refine blk_put (cs:=#[.int .i64 0,.int .i64 0,.slice none 0 0,.slice none 0 0]) ?_ 3 _ rfl; (with_reducible repeat (first | refine blk_drewN ?_ _ | refine blk_drew ?_ | refine blk_alloc ?_ _)); refine blk_put (cs:=#[.int .i64 0,.int .i64 0,.slice none 0 0,.slice none 0 0]) ?_ 2 _ rfl; (with_reducible repeat (first | refine blk_drewN ?_ _ | refine blk_drew ?_ | refine blk_alloc ?_ _)); refine blk_put (cs:=#[.int .i64 0,.int .i64 0,.slice none 0 0,.slice none 0 0]) ?_ 1 _ rfl; (with_reducible repeat (first | refine blk_drewN ?_ _ | refine blk_drew ?_ | refine blk_alloc ?_ _)); refine blk_put (cs:=#[.int .i64 0,.int .i64 0,.slice none 0 0,.slice none 0 0]) ?_ 0 _ rfl; (with_reducible repeat (first | refine blk_drewN ?_ _ | refine blk_drew ?_ | refine blk_alloc ?_ _)); refine blk_far ?_ NB801_811.out _; (with_reducible repeat (first | refine blk_drewN ?_ _ | refine blk_drew ?_ | refine blk_alloc ?_ _)); refine blk_far ?_ NB801_811.out _; (with_reducible repeat (first | refine blk_drewN ?_ _ | refine blk_drew ?_ | refine blk_alloc ?_ _)); refine blk_far ?_ NB801_810.out _; (with_reducible repeat (first | refine blk_drewN ?_ _ | refine blk_drew ?_ | refine blk_alloc ?_ _)); refine blk_far ?_ NB801_810.out _; (with_reducible repeat (first | refine blk_drewN ?_ _ | refine blk_drew ?_ | refine blk_alloc ?_ _)); exact BK801.out) Tryd.underlying36 rfl (by kernel_rfl)) rfl ?_
   exact ⟨_,_,er_,by first | exact Kd.R_nil _ _ _ _ _ | exact Kd.N_nil _ _ _ _ _ | exact Kd.V_nil _ _ _ _ _ | exact Kd.Q_nil _ _ _ _ _ | exact Kd.S_nil _ _ _ _ _,by first | exact Kd.R_nil _ _ _ _ _ | exact Kd.N_nil _ _ _ _ _ | exact Kd.V_nil _ _ _ _ _ | exact Kd.Q_nil _ _ _ _ _ | exact Kd.S_nil _ _ _ _ _,bl3_ HB.out GE801.out GE810.out GE811.out⟩
 ·replace c3:=Bool.eq_false_iff.mpr c3
  subst c3
  have H1:(some (0,0,([]:List Int),([]:List Int),false)) = some (r1,r2,r3,r4,r5):=by rw [if_neg (show ¬ (false = true) by decide)] at H; exact H
  clear H
  have H:=H1
  clear H1
  simp only [Option.some.injEq,Prod.mk.injEq] at H
  obtain ⟨rfl,rfl,rfl,rfl,rfl⟩:=H
  go_enter Tryd.func26,Tryd.ntmps26
  go_wp2_with (first | ((with_reducible refine gate_dst (N:=2) rfl ?_); refine boxE_ (N:=2) (cs:=#[.int .i64 0,.int .i64 0,.slice none 0 0,.slice none 0 0]) (t:=36) ?_; intro gb801 hg w35 hbox hb; have n0_:=am_ (below_step (bl0_ HB.out) hb); have n1_:=am_ (hbox); have n2_:=am_ ((bs0_ hg HB.out:w.heap.size ≤ gb801)); have n3_:=am_ ((bs0_ hg HB.out:w.heap.size ≤ gb801)); clear HB; have HB:=n0_; have BK801:=n1_; have GW801:=n2_; have GE801:=n3_; clear n0_ n1_ n2_ n3_; clear hb hbox hg) | (go_at_call 61; (with_reducible refine (spec_loCorners.calls k a0 t802 false _ A2.out).mono ?_); rintro e w36 ⟨v804,rfl,ho0,hb⟩; have n0_:=am_ (Kd.R_lower ho0 (below_size (bl1_ HB.out GE801.out))); have n1_:=am_ (bb_ BK801.out hb); have n2_:=am_ (below_step (bl1_ HB.out GE801.out) hb); clear BK801; clear HB; have HO805:=n0_; have BK801:=n1_; have HB:=n2_; clear n0_ n1_ n2_; (try clear hb); (try clear hb2); (try clear hk); (try clear hi); (try clear ho0); have hcz37_0:w36.cell? ⟨gb801,0,none⟩ = some (.int .i64 0):=(bc_ BK801.out 0).trans rfl; have hcz37_1:w36.cell? ⟨gb801,1,none⟩ = some (.int .i64 0):=(bc_ BK801.out 1).trans rfl; have hcz37_2:w36.cell? ⟨gb801,2,none⟩ = some (.slice none 0 0):=(bc_ BK801.out 2).trans rfl; have hcz37_3:w36.cell? ⟨gb801,3,none⟩ = some (.slice none 0 0):=(bc_ BK801.out 3).trans rfl; have hfz37_0:=bz_ BK801.out 0; have hfz37_1:=bz_ BK801.out 1; have hfz37_2:=bz_ BK801.out 2; have hfz37_3:=bz_ BK801.out 3))
  repeat (go_quiet (first | ((with_reducible refine gate_dst (N:=2) rfl ?_); refine boxE_ (N:=2) (cs:=#[.int .i64 0,.int .i64 0,.slice none 0 0,.slice none 0 0]) (t:=36) ?_; intro gb801 hg w35 hbox hb; have n0_:=am_ (below_step (bl0_ HB.out) hb); have n1_:=am_ (hbox); have n2_:=am_ ((bs0_ hg HB.out:w.heap.size ≤ gb801)); have n3_:=am_ ((bs0_ hg HB.out:w.heap.size ≤ gb801)); clear HB; have HB:=n0_; have BK801:=n1_; have GW801:=n2_; have GE801:=n3_; clear n0_ n1_ n2_ n3_; clear hb hbox hg) | (go_at_call 61; (with_reducible refine (spec_loCorners.calls k a0 t802 false _ A2.out).mono ?_); rintro e w36 ⟨v804,rfl,ho0,hb⟩; have n0_:=am_ (Kd.R_lower ho0 (below_size (bl1_ HB.out GE801.out))); have n1_:=am_ (bb_ BK801.out hb); have n2_:=am_ (below_step (bl1_ HB.out GE801.out) hb); clear BK801; clear HB; have HO805:=n0_; have BK801:=n1_; have HB:=n2_; clear n0_ n1_ n2_; (try clear hb); (try clear hb2); (try clear hk); (try clear hi); (try clear ho0); have hcz37_0:w36.cell? ⟨gb801,0,none⟩ = some (.int .i64 0):=(bc_ BK801.out 0).trans rfl; have hcz37_1:w36.cell? ⟨gb801,1,none⟩ = some (.int .i64 0):=(bc_ BK801.out 1).trans rfl; have hcz37_2:w36.cell? ⟨gb801,2,none⟩ = some (.slice none 0 0):=(bc_ BK801.out 2).trans rfl; have hcz37_3:w36.cell? ⟨gb801,3,none⟩ = some (.slice none 0 0):=(bc_ BK801.out 3).trans rfl; have hfz37_0:=bz_ BK801.out 0; have hfz37_1:=bz_ BK801.out 1; have hfz37_2:=bz_ BK801.out 2; have hfz37_3:=bz_ BK801.out 3)); try go_wp2_with (first | ((with_reducible refine gate_dst (N:=2) rfl ?_); refine boxE_ (N:=2) (cs:=#[.int .i64 0,.int .i64 0,.slice none 0 0,.slice none 0 0]) (t:=36) ?_; intro gb801 hg w35 hbox hb; have n0_:=am_ (below_step (bl0_ HB.out) hb); have n1_:=am_ (hbox); have n2_:=am_ ((bs0_ hg HB.out:w.heap.size ≤ gb801)); have n3_:=am_ ((bs0_ hg HB.out:w.heap.size ≤ gb801)); clear HB; have HB:=n0_; have BK801:=n1_; have GW801:=n2_; have GE801:=n3_; clear n0_ n1_ n2_ n3_; clear hb hbox hg) | (go_at_call 61; (with_reducible refine (spec_loCorners.calls k a0 t802 false _ A2.out).mono ?_); rintro e w36 ⟨v804,rfl,ho0,hb⟩; have n0_:=am_ (Kd.R_lower ho0 (below_size (bl1_ HB.out GE801.out))); have n1_:=am_ (bb_ BK801.out hb); have n2_:=am_ (below_step (bl1_ HB.out GE801.out) hb); clear BK801; clear HB; have HO805:=n0_; have BK801:=n1_; have HB:=n2_; clear n0_ n1_ n2_; (try clear hb); (try clear hb2); (try clear hk); (try clear hi); (try clear ho0); have hcz37_0:w36.cell? ⟨gb801,0,none⟩ = some (.int .i64 0):=(bc_ BK801.out 0).trans rfl; have hcz37_1:w36.cell? ⟨gb801,1,none⟩ = some (.int .i64 0):=(bc_ BK801.out 1).trans rfl; have hcz37_2:w36.cell? ⟨gb801,2,none⟩ = some (.slice none 0 0):=(bc_ BK801.out 2).trans rfl; have hcz37_3:w36.cell? ⟨gb801,3,none⟩ = some (.slice none 0 0):=(bc_ BK801.out 3).trans rfl; have hfz37_0:=bz_ BK801.out 0; have hfz37_1:=bz_ BK801.out 1; have hfz37_2:=bz_ BK801.out 2; have hfz37_3:=bz_ BK801.out 3)))
  refine bodyPost_ret (results_ct rfl _ _ gb801 36 #[.int .i64 0,.int .i64 0,.slice none 0 0,.slice none 0 0] (0,0) _ rfl (by (with_reducible repeat (first | refine blk_drewN ?_ _ | refine blk_drew ?_ | refine blk_alloc ?_ _)); refine blk_put (cs:=#[.int .i64 0,.int .i64 0,.slice none 0 0,.slice none 0 0]) ?_ 3 _ rfl; (with_reducible repeat (first | refine blk_drewN ?_ _ | refine blk_drew ?_ | refine blk_alloc ?_ _)); refine blk_put (cs:=#[.int .i64 0,.int .i64 0,.slice none 0 0,.slice none 0 0]) ?_ 2 _ rfl; (with_reducible repeat (first | refine blk_drewN ?_ _ | refine blk_drew ?_ | refine blk_alloc ?_ _)); refine blk_put (cs:=#[.int .i64 0,.int .i64 0,.slice none 0 0,.slice none 0 0]) ?_ 1 _ rfl; (with_reducible repeat (first | refine blk_drewN ?_ _ | refine blk_drew ?_ | refine blk_alloc ?_ _)); refine blk_put (cs:=#[.int .i64 0,.int .i64 0,.slice none 0 0,.slice none 0 0]) ?_ 0 _ rfl; (with_reducible repeat (first | refine blk_drewN ?_ _ | refine blk_drew ?_ | refine blk_alloc ?_ _)); exact BK801.out) Tryd.underlying36 rfl (by kernel_rfl)) rfl ?_
  exact ⟨_,_,er_,by first | exact Kd.R_nil _ _ _ _ _ | exact Kd.N_nil _ _ _ _ _ | exact Kd.V_nil _ _ _ _ _ | exact Kd.Q_nil _ _ _ _ _ | exact Kd.S_nil _ _ _ _ _,by first | exact Kd.R_nil _ _ _ _ _ | exact Kd.N_nil _ _ _ _ _ | exact Kd.V_nil _ _ _ _ _ | exact Kd.Q_nil _ _ _ _ _ | exact Kd.S_nil _ _ _ _ _,bl1_ HB.out GE801.out⟩


def impl_within.f (a0:Int) (a1:Int) (a2:Int):Option (Bool):=if a1 ≤ a0 then (some (decide (a0 ≤ a2))) else (some false)
set_option maxHeartbeats 8000000 in
set_option maxRecDepth 100000 in
theorem impl_within.calls (a0:Int) (a1:Int) (a2:Int) (r:Bool) (w:World) (h:impl_within.f a0 a1 a2 = some r) :
    Calls Tryd.prog 100 #[.int .i64 a0,.int .i64 a1,.int .i64 a2] w fun e w' => e = .returned (.bool r) ∧ Drawn0 w w':=by
  have H:(if a1 ≤ a0 then (some (decide (a0 ≤ a2))) else (some false)) = some r:=h
  clear h
  by_cases c4:a1 ≤ a0
  · rw [if_pos c4] at H
    have c4b0:decide (a1 ≤ a0) = true:=decide_eq_true c4
    clear c4
    obtain rfl:=Option.some.inj H
    go_enter Tryd.func100,Tryd.ntmps100
    go_wp2
    go_ret
    exact ⟨by first | rfl | (simp; done) | (simp [*]; done),by repeat (first | exact Drawn0.refl _ | apply Drawn0.step)⟩
  · rw [if_neg c4] at H
    have c4b0:decide (a1 ≤ a0) = false:=decide_eq_false c4
    clear c4
    obtain rfl:=Option.some.inj H
    go_enter Tryd.func100,Tryd.ntmps100
    go_wp2
    go_ret
    exact ⟨by first | rfl | (simp; done) | (simp [*]; done),by repeat (first | exact Drawn0.refl _ | apply Drawn0.step)⟩


def impl_isGrid.f (a0:Int) (a1:Int):Option (Bool):=(impl_within.f a0 1 4).bind fun t135 => (if t135 = true then ((impl_within.f a1 1 4).bind fun t136 => (some t136)) else (some false))
set_option maxHeartbeats 8000000 in
set_option maxRecDepth 100000 in
theorem impl_isGrid.calls (a0:Int) (a1:Int) (r:Bool) (w:World) (h:impl_isGrid.f a0 a1 = some r) :
    Calls Tryd.prog 53 #[.int .i64 a0,.int .i64 a1] w fun e w' => e = .returned (.bool r) ∧ Drawn0 w w':=by
  have H:((impl_within.f a0 1 4).bind fun t135 => (if t135 = true then ((impl_within.f a1 1 4).bind fun t136 => (some t136)) else (some false))) = some r:=h
  clear h
  replace H:=bi_ H
  obtain ⟨t135,A30,H⟩:=H
  replace H:(if t135 = true then ((impl_within.f a1 1 4).bind fun t136 => (some t136)) else (some false)) = some r:=H
  have A3:=am_ A30
  clear A30
  by_cases c4:t135 = true
  · subst c4
    have H1:((impl_within.f a1 1 4).bind fun t136 => (some t136)) = some r:=by rw [if_pos rfl] at H; exact H
    clear H
    have H:=H1
    clear H1
    replace H:=bi_ H
    obtain ⟨t136,A50,H⟩:=H
    replace H:(some t136) = some r:=H
    have A5:=am_ A50
    clear A50
    obtain rfl:=Option.some.inj H
    go_enter Tryd.func53,Tryd.ntmps53
    go_wp2_with (first | ((with_reducible refine gate_callee (f:=100) rfl ?_); refine goesL_ (some 6) rfl rfl Tryd.func100 (by kernel_rfl) rfl #[.int .i64 a0,.int .i64 1,.int .i64 4] rfl ob_ ?_; (with_reducible refine (impl_within.calls a0 1 4 true _ A3.out).mono ?_); rintro e w' ⟨rfl,⟨nd,rfl⟩⟩; refine ⟨_,rfl,?_⟩) | (go_at_call 100; (with_reducible refine (impl_within.calls a1 1 4 t136 _ A5.out).mono ?_); rintro e w' ⟨rfl,⟨nd,rfl⟩⟩))
    go_ret
    exact ⟨by first | rfl | (simp; done) | (simp [*]; done),by repeat (first | exact Drawn0.refl _ | apply Drawn0.step)⟩
  · replace c4:=Bool.eq_false_iff.mpr c4
    subst c4
    have H1:(some false) = some r:=by rw [if_neg (show ¬ (false = true) by decide)] at H; exact H
    clear H
    have H:=H1
    clear H1
    obtain rfl:=Option.some.inj H
    go_enter Tryd.func53,Tryd.ntmps53
    go_wp2_with (first | ((with_reducible refine gate_callee (f:=100) rfl ?_); refine goesL_ (some 6) rfl rfl Tryd.func100 (by kernel_rfl) rfl #[.int .i64 a0,.int .i64 1,.int .i64 4] rfl ob_ ?_; (with_reducible refine (impl_within.calls a0 1 4 false _ A3.out).mono ?_); rintro e w' ⟨rfl,⟨nd,rfl⟩⟩; refine ⟨_,rfl,?_⟩))
    go_ret
    exact ⟨by first | rfl | (simp; done) | (simp [*]; done),by repeat (first | exact Drawn0.refl _ | apply Drawn0.step)⟩


def impl_grid_levels.f (a0_0:Int) (a0_1:Int):Option (Int):=some (wrap64 (a0_0 * (wrap64 (a0_1 + 1))))
set_option maxHeartbeats 8000000 in
set_option maxRecDepth 100000 in
theorem impl_grid_levels.calls (a0_0:Int) (a0_1:Int) (r:Int) (w:World) (h:impl_grid_levels.f a0_0 a0_1 = some r) :
    Calls Tryd.prog 101 #[.agg #[.int .i64 a0_0,.int .i64 a0_1]] w fun e w' => e = .returned (.int .i64 r) ∧ Below w.heap.size w w':=by
  have hu75:=Tryd.underlying75
  have HB:=am_ (Below.refl w.heap.size w)
  have H:(some (wrap64 (a0_0 * (wrap64 (a0_1 + 1))))) = some r:=h
  clear h
  obtain rfl:=Option.some.inj H
  go_enter Tryd.func101,Tryd.ntmps101
  go_wp2_with (first | ((with_reducible refine gate_dst (N:=1) rfl ?_); refine boxE_ (N:=1) (cs:=#[.int .i64 a0_0,.int .i64 a0_1]) (t:=75) ?_; intro gb138 hg w2 hbox hb; have n0_:=am_ (below_step (bl0_ HB.out) hb); have n1_:=am_ (hbox); have n2_:=am_ ((bs0_ hg HB.out:w.heap.size ≤ gb138)); have n3_:=am_ ((bs0_ hg HB.out:w.heap.size ≤ gb138)); clear HB; have HB:=n0_; have BK138:=n1_; have GW138:=n2_; have GE138:=n3_; clear n0_ n1_ n2_ n3_; clear hb hbox hg; have hcz3_0:w2.cell? ⟨gb138,0,none⟩ = some (.int .i64 a0_0):=(bc_ BK138.out 0).trans rfl; have hcz3_1:w2.cell? ⟨gb138,1,none⟩ = some (.int .i64 a0_1):=(bc_ BK138.out 1).trans rfl; have hfz3_0:=bz_ BK138.out 0; have hfz3_1:=bz_ BK138.out 1))
  go_ret
  exact ⟨er_,bl1_ HB.out GE138.out⟩


def impl_Figure_grid.f (a0_0:Int) (a0_1:Int) (l0_2:List Int) (l0_3:List Int):Option (Int × Int):=some (a0_0,a0_1)

def spec_l1All.l0:Nat → Int → Int → List Int → Int → Int → Option (Bool)
  | 0,_,_,_,_,_ => none
  | k + 1,x1,x2,x9,x10,x11 => if x11 < x10 then (if 0 ≤ x11 then (if x11 < (x9.length:Int) then ((spec_l1In.f (rd x9 x11) x1 x2).bind fun t263 => (if t263 = true then (spec_l1All.l0 k x1 x2 x9 x10 (wrap64 (x11 + 1))) else (some false))) else (none)) else (none)) else (some true)
def spec_l1All.f (k:Nat) (l0:List Int) (a1:Int) (a2:Int):Option (Bool):=spec_l1All.l0 k a1 a2 l0 (l0.length:Int) 0
theorem spec_l1All.mono_l:∀ k,(∀ y0 y1 y2 y3 y4,LeO (spec_l1All.l0 k y0 y1 y2 y3 y4) (spec_l1All.l0 (k + 1) y0 y1 y2 y3 y4))
  | 0 => fun _ _ _ _ _ r h => by simp [spec_l1All.l0] at h
  | k + 1 => by
    have ih0:=spec_l1All.mono_l k
    · intro y0 y1 y2 y3 y4
      unfold spec_l1All.l0
      repeat' first | (with_reducible first | exact ih0 _ _ _ _ _ | exact LeO.refl _ | exact LeO.none _ | refine LeO.ite ?_ ?_ | refine LeO.bind ?_ (fun _ => ?_)) | exact ih0 _ _ _ _ _
theorem spec_l1All.mono:∀ a0 a1 a2 k,LeO (spec_l1All.f k a0 a1 a2) (spec_l1All.f (k + 1) a0 a1 a2):=by
  intro a0 a1 a2 k
  have ih0:=spec_l1All.mono_l k
  unfold spec_l1All.f
  repeat' first | (with_reducible first | exact ih0 _ _ _ _ _ | exact LeO.refl _ | exact LeO.none _ | refine LeO.ite ?_ ?_ | refine LeO.bind ?_ (fun _ => ?_)) | exact ih0 _ _ _ _ _

mutual
def spec_fiRises.j0:Nat → List Int → Bool → Option (Bool)
  | 0,_,_ => none
  | k + 1,x0,x16 => if x16 = true then (some false) else (spec_fiRises.l0 k x0 1)
def spec_fiRises.l0:Nat → List Int → Int → Option (Bool)
  | 0,_,_ => none
  | k + 1,x0,x5 => if x5 < (x0.length:Int) then (if 0 ≤ (wrap64 (x5 - 1)) then (if (wrap64 (x5 - 1)) < (x0.length:Int) then (if 0 ≤ x5 then (if (rd x0 (wrap64 (x5 - 1))) ≥ (rd x0 x5) then (some false) else (spec_fiRises.l0 k x0 (wrap64 (x5 + 1)))) else (none)) else (none)) else (none)) else (some true)
end
def spec_fiRises.f (k:Nat) (l0:List Int) (a1:Int):Option (Bool):=if (l0.length:Int) > (wrap64 (a1 + 1)) then (spec_fiRises.j0 k l0 true) else ((spec_l1All.f k l0 0 a1).bind fun t264 => (spec_fiRises.j0 k l0 (!t264)))
theorem spec_fiRises.mono_l:∀ k,(∀ y0 y1,LeO (spec_fiRises.j0 k y0 y1) (spec_fiRises.j0 (k + 1) y0 y1)) ∧ (∀ y0 y1,LeO (spec_fiRises.l0 k y0 y1) (spec_fiRises.l0 (k + 1) y0 y1))
  | 0 => ⟨fun _ _ r h => by simp [spec_fiRises.j0] at h,fun _ _ r h => by simp [spec_fiRises.l0] at h⟩
  | k + 1 => by
    obtain ⟨ih0,ih1⟩:=spec_fiRises.mono_l k
    refine ⟨?_,?_⟩
    · intro y0 y1
      unfold spec_fiRises.j0
      repeat' first | (with_reducible first | exact ih0 _ _ | exact ih1 _ _ | exact spec_l1All.mono _ _ _ _ | exact LeO.refl _ | exact LeO.none _ | refine LeO.ite ?_ ?_ | refine LeO.bind ?_ (fun _ => ?_)) | exact ih0 _ _ | exact ih1 _ _ | exact spec_l1All.mono _ _ _ _
    · intro y0 y1
      unfold spec_fiRises.l0
      repeat' first | (with_reducible first | exact ih0 _ _ | exact ih1 _ _ | exact spec_l1All.mono _ _ _ _ | exact LeO.refl _ | exact LeO.none _ | refine LeO.ite ?_ ?_ | refine LeO.bind ?_ (fun _ => ?_)) | exact ih0 _ _ | exact ih1 _ _ | exact spec_l1All.mono _ _ _ _
theorem spec_fiRises.mono:∀ a0 a1 k,LeO (spec_fiRises.f k a0 a1) (spec_fiRises.f (k + 1) a0 a1):=by
  intro a0 a1 k
  obtain ⟨ih0,ih1⟩:=spec_fiRises.mono_l k
  unfold spec_fiRises.f
  repeat' first | (with_reducible first | exact ih0 _ _ | exact ih1 _ _ | exact spec_l1All.mono _ _ _ _ | exact LeO.refl _ | exact LeO.none _ | refine LeO.ite ?_ ?_ | refine LeO.bind ?_ (fun _ => ?_)) | exact ih0 _ _ | exact ih1 _ _ | exact spec_l1All.mono _ _ _ _

def spec_fiGood.f (k:Nat) (a0_0:Int) (a0_1:Int) (l0_2:List Int) (l0_3:List Int):Option (Bool):=(spec_fiGrid.f a0_0 a0_1).bind fun t268 => (if t268 = true then ((spec_fiRises.f k l0_2 (wrap64 ((wrap64 (a0_0 * (wrap64 (a0_1 + 1)))) - 1))).bind fun t269 => (if t269 = true then ((spec_fiRises.f k l0_3 (wrap64 ((wrap64 ((wrap64 (a0_0 + 1)) * a0_1)) - 1))).bind fun t270 => (some t270)) else (some false))) else (some false))
theorem spec_fiGood.mono:∀ a0 a1 a2 a3 k,LeO (spec_fiGood.f k a0 a1 a2 a3) (spec_fiGood.f (k + 1) a0 a1 a2 a3):=by
  intro a0 a1 a2 a3 k
  unfold spec_fiGood.f
  repeat' first | (with_reducible first | exact spec_fiRises.mono _ _ _ | exact LeO.refl _ | exact LeO.none _ | refine LeO.ite ?_ ?_ | refine LeO.bind ?_ (fun _ => ?_)) | exact spec_fiRises.mono _ _ _

def impl_isRising.l0:Nat → List Int → Int → Option (Bool)
  | 0,_,_ => none
  | k + 1,x0,x3 => if x3 < (x0.length:Int) then (if 0 ≤ x3 then (if 0 ≤ (wrap64 (x3 - 1)) then (if (wrap64 (x3 - 1)) < (x0.length:Int) then (if (rd x0 x3) ≤ (rd x0 (wrap64 (x3 - 1))) then (some false) else (impl_isRising.l0 k x0 (wrap64 (x3 + 1)))) else (none)) else (none)) else (none)) else (some true)
def impl_isRising.f (k:Nat) (l0:List Int):Option (Bool):=impl_isRising.l0 k l0 1
theorem impl_isRising.mono_l:∀ k,(∀ y0 y1,LeO (impl_isRising.l0 k y0 y1) (impl_isRising.l0 (k + 1) y0 y1))
  | 0 => fun _ _ r h => by simp [impl_isRising.l0] at h
  | k + 1 => by
    have ih0:=impl_isRising.mono_l k
    · intro y0 y1
      unfold impl_isRising.l0
      repeat' first | (with_reducible first | exact ih0 _ _ | exact LeO.refl _ | exact LeO.none _ | refine LeO.ite ?_ ?_ | refine LeO.bind ?_ (fun _ => ?_)) | exact ih0 _ _
theorem impl_isRising.mono:∀ a0 k,LeO (impl_isRising.f k a0) (impl_isRising.f (k + 1) a0):=by
  intro a0 k
  have ih0:=impl_isRising.mono_l k
  unfold impl_isRising.f
  repeat' first | (with_reducible first | exact ih0 _ _ | exact LeO.refl _ | exact LeO.none _ | refine LeO.ite ?_ ?_ | refine LeO.bind ?_ (fun _ => ?_)) | exact ih0 _ _

theorem rd_nat (l:List Int) (k:Nat) (h:k < l.length):rd l (k:Int) = l[k]:=by
  unfold rd; rw [Int.toNat_natCast,List.getD_eq_getElem?_getD,List.getElem?_eq_getElem h]; rfl


def impl_areWithin.f (l0:List Int) (a1:Int) (a2:Int):Option Bool:=some (l0.all fun x => decide (a1 ≤ x) && decide (x ≤ a2))

def impl_grid_uprights.f (a0_0:Int) (a0_1:Int):Option (Int):=some (wrap64 (a0_1 * (wrap64 (a0_0 + 1))))
set_option maxHeartbeats 8000000 in
set_option maxRecDepth 100000 in
theorem impl_grid_uprights.calls (a0_0:Int) (a0_1:Int) (r:Int) (w:World) (h:impl_grid_uprights.f a0_0 a0_1 = some r) :
    Calls Tryd.prog 119 #[.agg #[.int .i64 a0_0,.int .i64 a0_1]] w fun e w' => e = .returned (.int .i64 r) ∧ Below w.heap.size w w':=by
  have hu75:=Tryd.underlying75
  have HB:=am_ (Below.refl w.heap.size w)
  have H:(some (wrap64 (a0_1 * (wrap64 (a0_0 + 1))))) = some r:=h
  clear h
  obtain rfl:=Option.some.inj H
  go_enter Tryd.func119,Tryd.ntmps119
  go_wp2_with (first | ((with_reducible refine gate_dst (N:=1) rfl ?_); refine boxE_ (N:=1) (cs:=#[.int .i64 a0_0,.int .i64 a0_1]) (t:=75) ?_; intro gb325 hg w2 hbox hb; have n0_:=am_ (below_step (bl0_ HB.out) hb); have n1_:=am_ (hbox); have n2_:=am_ ((bs0_ hg HB.out:w.heap.size ≤ gb325)); have n3_:=am_ ((bs0_ hg HB.out:w.heap.size ≤ gb325)); clear HB; have HB:=n0_; have BK325:=n1_; have GW325:=n2_; have GE325:=n3_; clear n0_ n1_ n2_ n3_; clear hb hbox hg; have hcz3_0:w2.cell? ⟨gb325,0,none⟩ = some (.int .i64 a0_0):=(bc_ BK325.out 0).trans rfl; have hcz3_1:w2.cell? ⟨gb325,1,none⟩ = some (.int .i64 a0_1):=(bc_ BK325.out 1).trans rfl; have hfz3_0:=bz_ BK325.out 0; have hfz3_1:=bz_ BK325.out 1))
  go_ret
  exact ⟨er_,bl1_ HB.out GE325.out⟩


def impl_IsFigure.f (k:Nat) (a0_0:Int) (a0_1:Int) (l0_2:List Int) (l0_3:List Int):Option (Bool):=(impl_isGrid.f a0_0 a0_1).bind fun t327 => (if t327 = true then ((impl_isRising.f k l0_2).bind fun t328 => (if t328 = true then ((impl_isRising.f k l0_3).bind fun t329 => (if t329 = true then ((impl_Figure_grid.f a0_0 a0_1 l0_2 l0_3).bind fun bt330 => ((impl_grid_levels.f bt330.1 bt330.2).bind fun t332 => ((impl_areWithin.f l0_2 0 (wrap64 (t332 - 1))).bind fun t333 => (if t333 = true then ((impl_Figure_grid.f a0_0 a0_1 l0_2 l0_3).bind fun bt334 => ((impl_grid_uprights.f bt334.1 bt334.2).bind fun t336 => ((impl_areWithin.f l0_3 0 (wrap64 (t336 - 1))).bind fun t337 => (some t337)))) else (some false))))) else (some false))) else (some false))) else (some false))
theorem impl_IsFigure.mono:∀ a0 a1 a2 a3 k,LeO (impl_IsFigure.f k a0 a1 a2 a3) (impl_IsFigure.f (k + 1) a0 a1 a2 a3):=by
  intro a0 a1 a2 a3 k
  unfold impl_IsFigure.f
  repeat' first | (with_reducible first | exact impl_isRising.mono _ _ | exact LeO.refl _ | exact LeO.none _ | refine LeO.ite ?_ ?_ | refine LeO.bind ?_ (fun _ => ?_)) | exact impl_isRising.mono _ _
def impl_IsFigure.T1:Bool × List (List Nat × List Nat):=(true,[([],[]),([0],[0]),([],[]),([2],[2]),([1,3],[1,3]),([4,4],[4]),([5],[5]),([6,5],[5,6]),([7,5,5],[5,7]),([5,8],[5,8]),([9,8],[9]),([10],[10]),([11,10],[10,11]),([12,10,10],[10,12]),([10,13],[10,13]),([14,13],[14]),([15],[15]),([16,15],[15,16]),([15],[15]),([18,15,15],[15,18]),([19,19,15],[15,19]),([20,15],[15,20]),([17,21,20,15],[15,17,21]),([15,22],[15,22]),([23,22],[23]),([24],[24]),([25,24],[24,25]),([24],[24]),([27,24,24],[24,27]),([28,28,24],[24,28]),([29,24],[24,29]),([26,30,29,24],[24,26,30]),([24,31],[24,31]),([32,31,0,1,2,3,4,5,6,7,8,9,10,11,12,13,14,15,16,17,18,19,20,21,22,23,24,25,26,27,28,29,30,31,32],[32])])
def impl_IsFigure.B1:List Nat:=[0,1,0,4,15,31,63,127,255,511,1023,2047,4095,8191,16383,32767,65535,131071,65535,327679,851967,1900543,4194303,8388607,16777215,33554431,67108863,33554431,167772159,436207615,973078527,2147483647,4294967295,8589934591]
theorem impl_IsFigure.tab1:rtab .any (opsOf Tryd.f93 1) = impl_IsFigure.T1:=by kernel_rfl
theorem impl_IsFigure.bits1:waitsOk impl_IsFigure.T1.2 impl_IsFigure.B1 = true:=by kernel_rfl

def risingB:List Int → Bool
  | a :: b :: t => decide (a < b) && risingB (b :: t)
  | _ => true
def inB (lo hi:Int) (l:List Int):Bool:=l.all fun x => decide (lo ≤ x) && decide (x ≤ hi)
def figB (w h:Int) (a u:List Int):Bool :=
  (decide (1 ≤ w) && decide (w ≤ 4) && decide (1 ≤ h) && decide (h ≤ 4)) && (risingB a && (risingB u && (inB 0 (w * (h + 1) - 1) a && inB 0 (h * (w + 1) - 1) u)))
theorem within_f (n lo hi:Int):impl_within.f n lo hi = some (decide (lo ≤ n) && decide (n ≤ hi)):=by
  unfold impl_within.f
  by_cases h:lo ≤ n
  · rw [if_pos h,decide_eq_true h]; rfl
  · rw [if_neg h,decide_eq_false h]; rfl
theorem l1In_f (n lo hi:Int):spec_l1In.f n lo hi = some (decide (lo ≤ n) && decide (n ≤ hi)):=by
  unfold spec_l1In.f
  by_cases h:lo ≤ n
  · rw [if_pos h,decide_eq_true h]; rfl
  · rw [if_neg (show ¬ n ≥ lo from h),decide_eq_false h]; rfl
theorem isGrid_f (w h:Int):impl_isGrid.f w h = some (decide (1 ≤ w) && decide (w ≤ 4) && decide (1 ≤ h) && decide (h ≤ 4)):=by
  unfold impl_isGrid.f
  rw [within_f,within_f,Option.bind_some,Option.bind_some]
  cases (decide (1 ≤ w) && decide (w ≤ 4)) <;> simp
theorem fiGrid_f (w h:Int):spec_fiGrid.f w h = some (decide (1 ≤ w) && decide (w ≤ 4) && decide (1 ≤ h) && decide (h ≤ 4)):=by
  unfold spec_fiGrid.f
  rw [l1In_f,l1In_f,Option.bind_some,Option.bind_some]
  cases (decide (1 ≤ w) && decide (w ≤ 4)) <;> simp
theorem grid_bounds {w h:Int} (hg:(decide (1 ≤ w) && decide (w ≤ 4) && decide (1 ≤ h) && decide (h ≤ 4)) = true):1 ≤ w ∧ w ≤ 4 ∧ 1 ≤ h ∧ h ≤ 4:=by
  simp only [Bool.and_eq_true,decide_eq_true_iff] at hg; omega
theorem area_bounds {w h:Int} (h1:1 ≤ w) (h2:w ≤ 4) (h3:1 ≤ h) (h4:h ≤ 4):2 ≤ w * (h + 1) ∧ w * (h + 1) ≤ 20 ∧ 2 ≤ h * (w + 1) ∧ h * (w + 1) ≤ 20:=by
  have:w = 1 ∨ w = 2 ∨ w = 3 ∨ w = 4:=by omega
  rcases this with rfl | rfl | rfl | rfl <;> omega

mutual
def impl_Figure_set.l0:Nat → Int → List Int → Int → Int → Int → Int → List Int → List Int → Option (Int)
  | 0,_,_,_,_,_,_,_,_ => none
  | k + 1,x3,x9,x10,x11,x154000,x154001,x154002,x154003 => if x11 < x10 then (if 0 ≤ x11 then (if x11 < (x9.length:Int) then (if 0 ≤ (rd x9 x11) then (impl_Figure_set.l0 k (Go.bits .or .u64 x3 (shl .u64 1 (rd x9 x11))) x9 x10 (wrap64 (x11 + 1)) x154000 x154001 x154002 x154003) else (none)) else (none)) else (none)) else (impl_Figure_set.l1 k x3 x154003 (x154003.length:Int) 0 x154000 x154001 x154002 x154003)
def impl_Figure_set.l1:Nat → Int → List Int → Int → Int → Int → Int → List Int → List Int → Option (Int)
  | 0,_,_,_,_,_,_,_,_ => none
  | k + 1,x3,x21,x22,x23,x154000,x154001,x154002,x154003 => if x23 < x22 then (if 0 ≤ x23 then (if x23 < (x21.length:Int) then ((impl_Figure_grid.f x154000 x154001 x154002 x154003).bind fun bt156 => ((impl_grid_levels.f bt156.1 bt156.2).bind fun t158 => (if 0 ≤ (wrap64 (t158 + (rd x21 x23))) then (impl_Figure_set.l1 k (Go.bits .or .u64 x3 (shl .u64 1 (wrap64 (t158 + (rd x21 x23))))) x21 x22 (wrap64 (x23 + 1)) x154000 x154001 x154002 x154003) else (none)))) else (none)) else (none)) else (some x3)
end
def impl_Figure_set.f (k:Nat) (a0_0:Int) (a0_1:Int) (l0_2:List Int) (l0_3:List Int):Option (Int):=impl_Figure_set.l0 k 0 l0_2 (l0_2.length:Int) 0 a0_0 a0_1 l0_2 l0_3
theorem impl_Figure_set.mono_l:∀ k,(∀ y0 y1 y2 y3 y4 y5 y6 y7,LeO (impl_Figure_set.l0 k y0 y1 y2 y3 y4 y5 y6 y7) (impl_Figure_set.l0 (k + 1) y0 y1 y2 y3 y4 y5 y6 y7)) ∧ (∀ y0 y1 y2 y3 y4 y5 y6 y7,LeO (impl_Figure_set.l1 k y0 y1 y2 y3 y4 y5 y6 y7) (impl_Figure_set.l1 (k + 1) y0 y1 y2 y3 y4 y5 y6 y7))
  | 0 => ⟨fun _ _ _ _ _ _ _ _ r h => by simp [impl_Figure_set.l0] at h,fun _ _ _ _ _ _ _ _ r h => by simp [impl_Figure_set.l1] at h⟩
  | k + 1 => by
    obtain ⟨ih0,ih1⟩:=impl_Figure_set.mono_l k
    refine ⟨?_,?_⟩
    · intro y0 y1 y2 y3 y4 y5 y6 y7
      unfold impl_Figure_set.l0
      repeat' first | (with_reducible first | exact ih0 _ _ _ _ _ _ _ _ | exact ih1 _ _ _ _ _ _ _ _ | exact LeO.refl _ | exact LeO.none _ | refine LeO.ite ?_ ?_ | refine LeO.bind ?_ (fun _ => ?_)) | exact ih0 _ _ _ _ _ _ _ _ | exact ih1 _ _ _ _ _ _ _ _
    · intro y0 y1 y2 y3 y4 y5 y6 y7
      unfold impl_Figure_set.l1
      repeat' first | (with_reducible first | exact ih0 _ _ _ _ _ _ _ _ | exact ih1 _ _ _ _ _ _ _ _ | exact LeO.refl _ | exact LeO.none _ | refine LeO.ite ?_ ?_ | refine LeO.bind ?_ (fun _ => ?_)) | exact ih0 _ _ _ _ _ _ _ _ | exact ih1 _ _ _ _ _ _ _ _
theorem impl_Figure_set.mono:∀ a0 a1 a2 a3 k,LeO (impl_Figure_set.f k a0 a1 a2 a3) (impl_Figure_set.f (k + 1) a0 a1 a2 a3):=by
  intro a0 a1 a2 a3 k
  obtain ⟨ih0,ih1⟩:=impl_Figure_set.mono_l k
  unfold impl_Figure_set.f
  repeat' first | (with_reducible first | exact ih0 _ _ _ _ _ _ _ _ | exact ih1 _ _ _ _ _ _ _ _ | exact LeO.refl _ | exact LeO.none _ | refine LeO.ite ?_ ?_ | refine LeO.bind ?_ (fun _ => ?_)) | exact ih0 _ _ _ _ _ _ _ _ | exact ih1 _ _ _ _ _ _ _ _

theorem u64_small (n:Int) (h0:0 ≤ n) (h1:n < 2 ^ 60):IntKind.u64.wrap n = n:=by
  have:IntKind.u64.wrap n = n % 18446744073709551616:=by simp [IntKind.wrap,IntKind.bits,IntKind.signed]
  rw [this]; omega
theorem i64_small (n:Int) (h0:0 ≤ n) (h1:n < 2 ^ 60):IntKind.i64.wrap n = n:=by rw [IntKind.wrap_i64]; omega
theorem or_u64 (a b:Nat) (ha:a < 2 ^ 60) (hb:b < 2 ^ 60):Go.bits .or .u64 (a:Int) (b:Int) = ((a ||| b:Nat):Int):=(bits_nat .u64 60 (by decide) u64_small a b ha hb).2
theorem and_u64 (a b:Nat) (ha:a < 2 ^ 60) (hb:b < 2 ^ 60):Go.bits .and .u64 (a:Int) (b:Int) = ((a &&& b:Nat):Int):=(bits_nat .u64 60 (by decide) u64_small a b ha hb).1
theorem pow_lt60 {n:Nat} (h:n < 60):2 ^ n < 2 ^ 60:=Nat.pow_lt_pow_right (by decide) h
theorem shl_u64 (n:Nat) (h:n < 60):shl .u64 1 (n:Int) = ((2 ^ n:Nat):Int):=by
  unfold shl
  rw [Int.toNat_natCast,show min n IntKind.u64.bits = n from Nat.min_eq_left (by show n ≤ 64; omega),Int.one_mul]
  have h2:=pow_lt60 h
  rw [u64_small _ (by exact_mod_cast Nat.zero_le _) (by exact_mod_cast h2)]
  norm_cast
def bitsFrom (s:Nat) (l:List Int) (m:Nat):Nat:=l.foldl (fun m k => m ||| 2 ^ (s + k.toNat)) m
theorem bitsFrom_test (s:Nat) (l:List Int) (i:Nat):∀ m,(bitsFrom s l m).testBit i = (m.testBit i || l.any fun k => decide (s + k.toNat = i)):=by
  induction l with
  | nil => intro m; simp [bitsFrom]
  | cons a t ih =>
    intro m
    have:=ih (m ||| 2 ^ (s + a.toNat))
    unfold bitsFrom at this ⊢
    rw [List.foldl_cons,this,Nat.testBit_or,Nat.testBit_two_pow,List.any_cons,Bool.or_assoc]
theorem inB_mem {lo hi:Int} {l:List Int} (h:inB lo hi l = true) (x:Int) (hx:x ∈ l):lo ≤ x ∧ x ≤ hi:=by
  unfold inB at h
  rw [List.all_eq_true] at h
  have:=h x hx
  simpa using this
def figMask (w h:Int) (a u:List Int):Nat:=bitsFrom (w * (h + 1)).toNat u (bitsFrom 0 a 0)
theorem figMask_level {w h:Int} {a u:List Int} (hf:figB w h a u = true) (e:Nat) (he:(e:Int) < w * (h + 1)):(figMask w h a u).testBit e = decide ((e:Int) ∈ a):=by
  unfold figB at hf
  simp only [Bool.and_eq_true] at hf
  obtain ⟨hg,-,-,hi1,hi2⟩:=hf
  unfold figMask
  rw [bitsFrom_test,bitsFrom_test,Nat.zero_testBit,Bool.false_or]
  rw [show (u.any fun k => decide ((w * (h + 1)).toNat + k.toNat = e)) = false from by
    rw [List.any_eq_false]; intro k hk; have:=inB_mem hi2 k hk; simp; omega]
  rw [Bool.or_false,Bool.eq_iff_iff,List.any_eq_true,decide_eq_true_iff]
  constructor
  · rintro ⟨k,hk,hke⟩
    have:=inB_mem hi1 k hk
    simp at hke
    rw [show (e:Int) = k by omega]
    exact hk
  · intro hm
    exact ⟨_,hm,by simp⟩
theorem figMask_upright {w h:Int} {a u:List Int} (hf:figB w h a u = true) (e:Nat):(figMask w h a u).testBit ((w * (h + 1)).toNat + e) = decide ((e:Int) ∈ u):=by
  unfold figB at hf
  simp only [Bool.and_eq_true] at hf
  obtain ⟨hg,-,-,hi1,hi2⟩:=hf
  obtain ⟨b1,b2,b3,b4⟩:=grid_bounds (by simp only [Bool.and_eq_true]; exact hg)
  obtain ⟨c1,c2,c3,c4⟩:=area_bounds b1 b2 b3 b4
  unfold figMask
  rw [bitsFrom_test,bitsFrom_test,Nat.zero_testBit,Bool.false_or]
  rw [show (a.any fun k => decide (0 + k.toNat = (w * (h + 1)).toNat + e)) = false from by
    rw [List.any_eq_false]; intro k hk; have:=inB_mem hi1 k hk; simp; omega]
  rw [Bool.false_or,Bool.eq_iff_iff,List.any_eq_true,decide_eq_true_iff]
  constructor
  · rintro ⟨k,hk,hke⟩
    have:=inB_mem hi2 k hk
    simp at hke
    rw [show (e:Int) = k by omega]
    exact hk
  · intro hm
    exact ⟨_,hm,by simp⟩

def bits_OnesCount64.f (a0:Int):Option (Int):=some (Go.bits .and .i64 (wrap64 (IntKind.u64.wrap ((IntKind.u64.wrap ((IntKind.u64.wrap ((Go.bits .and .u64 (IntKind.u64.wrap (((IntKind.u64.wrap ((Go.bits .and .u64 ((IntKind.u64.wrap ((Go.bits .and .u64 (a0 / 2) 6148914691236517205) + (Go.bits .and .u64 a0 6148914691236517205))) / 4) 3689348814741910323) + (Go.bits .and .u64 (IntKind.u64.wrap ((Go.bits .and .u64 (a0 / 2) 6148914691236517205) + (Go.bits .and .u64 a0 6148914691236517205))) 3689348814741910323))) / 16) + (IntKind.u64.wrap ((Go.bits .and .u64 ((IntKind.u64.wrap ((Go.bits .and .u64 (a0 / 2) 6148914691236517205) + (Go.bits .and .u64 a0 6148914691236517205))) / 4) 3689348814741910323) + (Go.bits .and .u64 (IntKind.u64.wrap ((Go.bits .and .u64 (a0 / 2) 6148914691236517205) + (Go.bits .and .u64 a0 6148914691236517205))) 3689348814741910323))))) 1085102592571150095) + ((Go.bits .and .u64 (IntKind.u64.wrap (((IntKind.u64.wrap ((Go.bits .and .u64 ((IntKind.u64.wrap ((Go.bits .and .u64 (a0 / 2) 6148914691236517205) + (Go.bits .and .u64 a0 6148914691236517205))) / 4) 3689348814741910323) + (Go.bits .and .u64 (IntKind.u64.wrap ((Go.bits .and .u64 (a0 / 2) 6148914691236517205) + (Go.bits .and .u64 a0 6148914691236517205))) 3689348814741910323))) / 16) + (IntKind.u64.wrap ((Go.bits .and .u64 ((IntKind.u64.wrap ((Go.bits .and .u64 (a0 / 2) 6148914691236517205) + (Go.bits .and .u64 a0 6148914691236517205))) / 4) 3689348814741910323) + (Go.bits .and .u64 (IntKind.u64.wrap ((Go.bits .and .u64 (a0 / 2) 6148914691236517205) + (Go.bits .and .u64 a0 6148914691236517205))) 3689348814741910323))))) 1085102592571150095) / 256))) + ((IntKind.u64.wrap ((Go.bits .and .u64 (IntKind.u64.wrap (((IntKind.u64.wrap ((Go.bits .and .u64 ((IntKind.u64.wrap ((Go.bits .and .u64 (a0 / 2) 6148914691236517205) + (Go.bits .and .u64 a0 6148914691236517205))) / 4) 3689348814741910323) + (Go.bits .and .u64 (IntKind.u64.wrap ((Go.bits .and .u64 (a0 / 2) 6148914691236517205) + (Go.bits .and .u64 a0 6148914691236517205))) 3689348814741910323))) / 16) + (IntKind.u64.wrap ((Go.bits .and .u64 ((IntKind.u64.wrap ((Go.bits .and .u64 (a0 / 2) 6148914691236517205) + (Go.bits .and .u64 a0 6148914691236517205))) / 4) 3689348814741910323) + (Go.bits .and .u64 (IntKind.u64.wrap ((Go.bits .and .u64 (a0 / 2) 6148914691236517205) + (Go.bits .and .u64 a0 6148914691236517205))) 3689348814741910323))))) 1085102592571150095) + ((Go.bits .and .u64 (IntKind.u64.wrap (((IntKind.u64.wrap ((Go.bits .and .u64 ((IntKind.u64.wrap ((Go.bits .and .u64 (a0 / 2) 6148914691236517205) + (Go.bits .and .u64 a0 6148914691236517205))) / 4) 3689348814741910323) + (Go.bits .and .u64 (IntKind.u64.wrap ((Go.bits .and .u64 (a0 / 2) 6148914691236517205) + (Go.bits .and .u64 a0 6148914691236517205))) 3689348814741910323))) / 16) + (IntKind.u64.wrap ((Go.bits .and .u64 ((IntKind.u64.wrap ((Go.bits .and .u64 (a0 / 2) 6148914691236517205) + (Go.bits .and .u64 a0 6148914691236517205))) / 4) 3689348814741910323) + (Go.bits .and .u64 (IntKind.u64.wrap ((Go.bits .and .u64 (a0 / 2) 6148914691236517205) + (Go.bits .and .u64 a0 6148914691236517205))) 3689348814741910323))))) 1085102592571150095) / 256))) / 65536))) + ((IntKind.u64.wrap ((IntKind.u64.wrap ((Go.bits .and .u64 (IntKind.u64.wrap (((IntKind.u64.wrap ((Go.bits .and .u64 ((IntKind.u64.wrap ((Go.bits .and .u64 (a0 / 2) 6148914691236517205) + (Go.bits .and .u64 a0 6148914691236517205))) / 4) 3689348814741910323) + (Go.bits .and .u64 (IntKind.u64.wrap ((Go.bits .and .u64 (a0 / 2) 6148914691236517205) + (Go.bits .and .u64 a0 6148914691236517205))) 3689348814741910323))) / 16) + (IntKind.u64.wrap ((Go.bits .and .u64 ((IntKind.u64.wrap ((Go.bits .and .u64 (a0 / 2) 6148914691236517205) + (Go.bits .and .u64 a0 6148914691236517205))) / 4) 3689348814741910323) + (Go.bits .and .u64 (IntKind.u64.wrap ((Go.bits .and .u64 (a0 / 2) 6148914691236517205) + (Go.bits .and .u64 a0 6148914691236517205))) 3689348814741910323))))) 1085102592571150095) + ((Go.bits .and .u64 (IntKind.u64.wrap (((IntKind.u64.wrap ((Go.bits .and .u64 ((IntKind.u64.wrap ((Go.bits .and .u64 (a0 / 2) 6148914691236517205) + (Go.bits .and .u64 a0 6148914691236517205))) / 4) 3689348814741910323) + (Go.bits .and .u64 (IntKind.u64.wrap ((Go.bits .and .u64 (a0 / 2) 6148914691236517205) + (Go.bits .and .u64 a0 6148914691236517205))) 3689348814741910323))) / 16) + (IntKind.u64.wrap ((Go.bits .and .u64 ((IntKind.u64.wrap ((Go.bits .and .u64 (a0 / 2) 6148914691236517205) + (Go.bits .and .u64 a0 6148914691236517205))) / 4) 3689348814741910323) + (Go.bits .and .u64 (IntKind.u64.wrap ((Go.bits .and .u64 (a0 / 2) 6148914691236517205) + (Go.bits .and .u64 a0 6148914691236517205))) 3689348814741910323))))) 1085102592571150095) / 256))) + ((IntKind.u64.wrap ((Go.bits .and .u64 (IntKind.u64.wrap (((IntKind.u64.wrap ((Go.bits .and .u64 ((IntKind.u64.wrap ((Go.bits .and .u64 (a0 / 2) 6148914691236517205) + (Go.bits .and .u64 a0 6148914691236517205))) / 4) 3689348814741910323) + (Go.bits .and .u64 (IntKind.u64.wrap ((Go.bits .and .u64 (a0 / 2) 6148914691236517205) + (Go.bits .and .u64 a0 6148914691236517205))) 3689348814741910323))) / 16) + (IntKind.u64.wrap ((Go.bits .and .u64 ((IntKind.u64.wrap ((Go.bits .and .u64 (a0 / 2) 6148914691236517205) + (Go.bits .and .u64 a0 6148914691236517205))) / 4) 3689348814741910323) + (Go.bits .and .u64 (IntKind.u64.wrap ((Go.bits .and .u64 (a0 / 2) 6148914691236517205) + (Go.bits .and .u64 a0 6148914691236517205))) 3689348814741910323))))) 1085102592571150095) + ((Go.bits .and .u64 (IntKind.u64.wrap (((IntKind.u64.wrap ((Go.bits .and .u64 ((IntKind.u64.wrap ((Go.bits .and .u64 (a0 / 2) 6148914691236517205) + (Go.bits .and .u64 a0 6148914691236517205))) / 4) 3689348814741910323) + (Go.bits .and .u64 (IntKind.u64.wrap ((Go.bits .and .u64 (a0 / 2) 6148914691236517205) + (Go.bits .and .u64 a0 6148914691236517205))) 3689348814741910323))) / 16) + (IntKind.u64.wrap ((Go.bits .and .u64 ((IntKind.u64.wrap ((Go.bits .and .u64 (a0 / 2) 6148914691236517205) + (Go.bits .and .u64 a0 6148914691236517205))) / 4) 3689348814741910323) + (Go.bits .and .u64 (IntKind.u64.wrap ((Go.bits .and .u64 (a0 / 2) 6148914691236517205) + (Go.bits .and .u64 a0 6148914691236517205))) 3689348814741910323))))) 1085102592571150095) / 256))) / 65536))) / 4294967296)))) 127)

def t1 (b:Nat):Nat:=(b / 2 &&& 85) + (b &&& 85)
def t2 (b:Nat):Nat:=(b / 4 &&& 51) + (b &&& 51)

theorem R_lit0 {α:Type} (d:Kd α) (e:Nat) (W:World) (base:Nat) (hb:base ≤ W.heap.size):d.R e (W.alloc (.cells #[] e)) base (fun k => k = W.heap.size) (.slice (some ⟨W.heap.size,0,none⟩) 0 0) ([]:List α):=by
  refine ⟨fun k hk => by simpa [Value.ownBlock] using hk.symm,[],?_,Reps.none _ _⟩
  have h:=World.ownsRow_lit (base:=base) (e:=e) (size:=d.sz) W #[] 0 hb (by simp [maxLen]) (by simp)
  simpa using h
theorem lit1_C {α:Type} (enc:α → Value) (h1:∀ x,(enc x).oneCell' = true) (e:Nat) (W:World) (x:α):(Kd.scalar enc h1).C (W.alloc (.cells #[enc x] e)) (some ⟨W.heap.size,0,none⟩) 1 [x]:=by
  refine Kd.C_of_reads (enc:=enc) (d:=x) (h1:=h1) ⟨rfl,by omega,fun _ => ⟨_,rfl,fun j hj => ?_⟩⟩
  obtain rfl:j = 0:=by omega
  exact World.cell?_alloc_at _ _ _ _ rfl

def bitsN (s:Nat):List Nat:=(List.range 64).filter fun i => s.testBit i
theorem filter_first {p q:Nat → Bool} {k n:Nat} (hk:k < n) (hp:p k = true) (h0:∀ i,i < k → p i = false) (hq:∀ i,q i = (p i && !(i == k))):(List.range n).filter p = k :: (List.range n).filter q:=by
  have e:List.range n = List.range k ++ k :: List.range' (k + 1) (n - k - 1):=by
    rw [List.range_eq_range',List.range_eq_range',show k :: List.range' (k + 1) (n - k - 1) = List.range' k (n - k - 1 + 1) from (List.range'_succ (s:=k) (n:=n - k - 1) (step:=1)).symm]
    have:=List.range'_append_1 (s:=0) (m:=k) (n:=n - k - 1 + 1)
    rw [Nat.zero_add] at this
    rw [this]
    congr 1
    omega
  rw [e,List.filter_append,List.filter_append,List.filter_cons_of_pos hp,List.filter_cons_of_neg (by rw [hq]; simp)]
  have a1:(List.range k).filter p = []:=by
    rw [List.filter_eq_nil_iff]; intro i hi; rw [h0 i (List.mem_range.1 hi)]; simp
  have a2:(List.range k).filter q = []:=by
    rw [List.filter_eq_nil_iff]; intro i hi; rw [hq,h0 i (List.mem_range.1 hi)]; simp
  rw [a1,a2,List.nil_append,List.nil_append]
  congr 1
  apply List.filter_congr
  intro i hi
  rw [hq]
  have:i ≠ k:=by
    rw [List.mem_range'_1] at hi; omega
  simp [this]
theorem low_bits (s:Nat) (h0:s ≠ 0) (h:s < 2 ^ 60):Lib.ctz 64 s < 60 ∧ s.testBit (Lib.ctz 64 s) = true ∧ (∀ i,i < Lib.ctz 64 s → s.testBit i = false) ∧ (∀ i,(s &&& (s - 1)).testBit i = (s.testBit i && !(i == Lib.ctz 64 s))) ∧ s &&& (s - 1) < s:=by
  obtain ⟨m,hm,hk⟩:=Lib.ctzFrom_spec 64 s (by omega) (Nat.lt_of_lt_of_le h (by decide))
  have e:Lib.ctz 64 s = Lib.ctzFrom 64 s:=by unfold Lib.ctz; rw [if_neg h0]
  rw [e]
  generalize Lib.ctzFrom 64 s = k at hm hk
  have hp:0 < 2 ^ k:=Nat.two_pow_pos k
  have hs1:s - 1 = 2 ^ k * (2 * m) + (2 ^ k - 1):=by
    rw [hm,Nat.mul_add]; omega
  have t1:∀ i,s.testBit i = (decide (k ≤ i) && (2 * m + 1).testBit (i - k)):=fun i => by rw [hm,Nat.testBit_two_pow_mul]
  have t2:∀ i,(s - 1).testBit i = if i < k then (2 ^ k - 1).testBit i else (2 * m).testBit (i - k):=fun i => by rw [hs1,Nat.testBit_two_pow_mul_add _ (by omega)]
  have odd0:(2 * m + 1).testBit 0 = true:=by simp
  refine ⟨?_,?_,?_,?_,?_⟩
  · rcases Nat.lt_or_ge k 60 with hlt | hge
    · exact hlt
    · exfalso
      have h1:2 ^ 60 ≤ 2 ^ k:=Nat.pow_le_pow_right (by omega) hge
      have h2:2 ^ k * 1 ≤ 2 ^ k * (2 * m + 1):=Nat.mul_le_mul_left _ (by omega)
      omega
  · rw [t1]; simp
  · intro i hi; rw [t1]; simp; omega
  · intro i
    rw [Nat.testBit_and,t1,t2]
    rcases Nat.lt_trichotomy i k with hi | hi | hi
    · simp [show ¬ k ≤ i by omega]
    · subst hi; simp
    · obtain ⟨j,hj⟩:∃ j,i - k = j + 1:=⟨i - k - 1,by omega⟩
      rw [if_neg (by omega),hj,Nat.testBit_succ,Nat.testBit_succ,show (2 * m + 1) / 2 = m by omega,show 2 * m / 2 = m by omega]
      simp [show k ≤ i by omega,show i ≠ k by omega]
  · have:=Nat.and_le_right (n:=s) (m:=s - 1)
    omega
theorem bitsN_step (s:Nat) (h0:s ≠ 0) (h:s < 2 ^ 60):bitsN s = Lib.ctz 64 s :: bitsN (s &&& (s - 1)):=by
  obtain ⟨h1,h2,h3,h4,_⟩:=low_bits s h0 h
  exact filter_first (by omega) h2 h3 h4
theorem bitsN_zero:bitsN 0 = []:=by decide
theorem bitsN_len (s:Nat):(bitsN s).length ≤ 64:=Nat.le_trans (List.length_filter_le _ _) (by simp)
def bitsI (s:Nat):List Int:=(bitsN s).map fun n:Nat => (n:Int)
theorem bitsI_len (s:Nat):(bitsI s).length ≤ 64:=by unfold bitsI; rw [List.length_map]; exact bitsN_len s
set_option maxRecDepth 100000 in
set_option maxHeartbeats 4000000 in
theorem listed_any (s:Nat) (hs:s < 2 ^ 60) (w:World) (hT:TB w) :
    Calls Tryd.prog 89 #[.int .u64 s] w fun e w' => ∃ v,e = .returned v ∧ Kd.R (Kd.int .i64) 3 w' w.heap.size (fun _ => True) v (bitsI s) ∧ Below w.heap.size w w':=by
  have HT:=am_ hT
  have hi5:(Tryd.prog.info? 3).map (fun i => (i.zero,i.size,i.bytes)) = some (some (.int .i64 0),1,8):=by kernel_rfl
  have R0:Aside0 (Kd.R (Kd.int .i64) 3 (w.alloc (.cells #[] 3)) w.heap.size (fun _ => True) (.slice (some ⟨w.heap.size,0,none⟩) 0 0) []):=⟨Kd.R_mono (R_lit0 (Kd.int .i64) 3 w w.heap.size (Nat.le_refl _)) (fun _ _ => trivial)⟩
  have B0:=am_ (below_alloc (Below.refl w.heap.size w) (.cells #[] 3))
  have S0:Aside0 (([]:List Int) ++ bitsI s = bitsI s ∧ s < 2 ^ 60):=⟨rfl,hs⟩
  clear hT hs
  go_enter Tryd.func89,Tryd.ntmps89
  go_wp2_with fail
  go_loopg [0,3] s (fun gg u0 u3 wr => ∃ (t:Nat) (acc:List Int),t ≤ gg ∧ u0 = .int .u64 t ∧ Aside0 (acc ++ bitsI t = bitsI s ∧ t < 2 ^ 60) ∧ Aside0 (Kd.R (Kd.int .i64) 3 wr w.heap.size (fun _ => True) u3 acc) ∧ Aside0 (Below w.heap.size w wr))
  case atStart => exact ⟨s,[],Nat.le_refl _,rfl,S0,R0,B0⟩
  case round =>
    clear S0 R0 B0
    obtain ⟨t,acc,hgg,rfl,HS,HO,HB⟩:=hrel
    by_cases ht:t = 0
    · subst ht
      have HF:Aside0 (acc = bitsI s):=⟨by have h:=HS.out.1; rw [show bitsI 0 = [] from by unfold bitsI; rw [bitsN_zero]; rfl,List.append_nil] at h; exact h⟩
      go_wp2_with fail
      go_ret
      exact ⟨_,rfl,by rw [← HF.out]; exact HO.out,HB.out⟩
    · have ht60:=HS.out.2
      have hlen:acc.length ≤ 64:=by
        have h:=congrArg List.length HS.out.1
        have:=bitsI_len s
        simp at h
        omega
      obtain ⟨-,-,-,-,hlt⟩:=low_bits t ht ht60
      have hstep:=bitsN_step t ht ht60
      have hgt:decide (0 < (t:Int)) = true:=by simp; omega
      have hsub:IntKind.u64.wrap ((t:Int) - 1) = ((t - 1:Nat):Int):=by rw [IntKind.wrap_u64]; omega
      have hand:bits BinOp.and IntKind.u64 (t:Int) ((t - 1:Nat):Int) = ((t &&& (t - 1):Nat):Int):=bits_and_u64_nat t (t - 1) (by omega) (by omega)
      have HS2:Aside0 ((acc ++ [(Lib.ctz 64 t:Int)]) ++ bitsI (t &&& (t - 1)) = bitsI s ∧ t &&& (t - 1) < 2 ^ 60):=⟨by rw [← HS.out.1]; unfold bitsI; rw [hstep]; simp,by omega⟩
      have HTZ:=am_ (fun W (h:TB W) => tz_any t ht60 ht W h)
      have HL:=am_ hlen
      have HT1:=am_ (HT.out.below HB.out)
      clear ht60 hlen hstep HS
      generalize Lib.ctz 64 t = z at HS2 HTZ
      go_wp2_with (first
        | (go_at_call 126; refine (HTZ.out _ HT1.out).mono ?_; rintro e w' ⟨rfl,rfl⟩)
        | (at_builtin; refine Kd.R_append_row (w0:=w) (h1:=fun _ => rfl) (Value.int .i64) (0:Int) w.heap.size rfl _ _ _ _ _ 8 rfl Tryd.underlying22 hi5 rfl (by decide) u3 acc [(z:Int)] _ 1 _ (fun _ => True) rfl rfl (fun _ _ => trivial) ?xA ?xB ?xC ?xD ?xE ?_; (case xA => exact Kd.R_alloc HO.out _); (case xB => exact lit1_C (Value.int .i64) _ _ wr _); (case xC => exact below_alloc HB.out _); (case xD => have h_:=HB.out.size; simp; omega); (case xE => have h_:=HL.out; omega); intro v1 w1 ho hb hg hat; have HO1:=am_ ho; have HB1:=am_ hb; clear ho hb hg hat))
      go_roundg (t &&& (t - 1))
      case measure => omega
      case rel => exact ⟨t &&& (t - 1),acc ++ [(z:Int)],Nat.le_refl _,rfl,HS2,HO1,HB1⟩
def impl_set_listed.f (a0:Int):Option (List Int):=if 0 ≤ a0 ∧ a0 < 1152921504606846976 then some (bitsI a0.toNat) else none
theorem impl_set_listed.calls (a0:Int) (r:List Int) (w:World) (hT_:TB w) (h:impl_set_listed.f a0 = some r) :
    Calls Tryd.prog 89 #[.int .u64 a0] w fun e w' => ∃ v0_:Value,e = .returned v0_ ∧ Kd.R (Kd.int .i64) 3 w' w.heap.size (fun _ => True) v0_ r ∧ Below w.heap.size w w':=by
  unfold impl_set_listed.f at h
  split at h
  · rename_i h0
    obtain rfl:=Option.some.inj h
    obtain ⟨n,rfl⟩:=Int.eq_ofNat_of_zero_le h0.1
    rw [Int.toNat_natCast]
    exact listed_any n (by have h2:(2:Nat) ^ 60 = 1152921504606846976:=by decide
                           have:=h0.2; omega) w hT_
  · cases h

end Go.Proofs.YtehjfaddhmdicaaDoor.P
