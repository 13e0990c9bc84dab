/- For every input the law FnExactPartsOfFigure answers true: the program's PartsOfFigure tells what the reference's PartsOfFigure tells; no condition. (part 5 of the proof; the words of the kit's print tool and the texts of this seat, merged by a program) -/
import Derived.Below
import Derived.ChangeOld
import Derived.FnData
import Derived.Handed
import Derived.JoinedOf
import Derived.LaidHandle
import Derived.LaidLaws
import Derived.Lib.SmallJoins
import Derived.OpenShut
import Derived.ProofKit
import Derived.SevenTiedAt
import Derived.SizedLaws
import Derived.Test.YtjnajeplfgdklaaDoorCards
import Derived.Test.YtjnajeplfgdklaaDoorClosed
import Derived.Test.YtjnajeplfgdklaaDoorRows
import Derived.Test.YtjnajeplfgdklaaDoorTie
import Derived.WalkKit
import Derived.Test.YtjnajeplfgdklaaDoorMPOF4
namespace Go.Proofs.YtjnajeplfgdklaaDoor.P
open Go.RowKit Go.Proofs.YtjnajeplfgdklaaDoorW.PrintWords Go.Proofs.YtjnajeplfgdklaaDoorW.PrintLast Go.Proofs.YtjnajeplfgdklaaDoorW.PrintMore
attribute [local go_sem] max2_int min2_int max_two min_two max_three min_three max_four min_four   -- for this text's walks alone
set_option linter.unusedVariables false
set_option linter.unusedSimpArgs false

def spec_liUsed.l0:Nat → List (S103) → List (S103) → Int → Int → Int → Int → List Int → List Int → Option ((List (S103)))
 | 0,_,_,_,_,_,_,_,_ => none
 | k + 1,x3,x7,x8,x9,x722000,x722001,x722002,x722003 => if x9 < x8 then (if 0 ≤ x9 then (if x9 < (x7.length:Int) then ((spec_liMeet.f k x722000 x722001 x722002 x722003 ((rd_T103 x7 x9).f0) ((rd_T103 x7 x9).f1)).bind fun t727 => (if t727 > 0 then (if x3.length < 8796093022208 then (spec_liUsed.l0 k (x3 ++ [(⟨(rd_T103 x7 x9).f0,(rd_T103 x7 x9).f1⟩:S103)]) x7 x8 (wrap64 (x9 + 1)) x722000 x722001 x722002 x722003) else (none)) else (spec_liUsed.l0 k x3 x7 x8 (wrap64 (x9 + 1)) x722000 x722001 x722002 x722003))) else (none)) else (none)) else (some x3)
def spec_liUsed.f (k:Nat) (a0_0:Int) (a0_1:Int) (l0_2:List Int) (l0_3:List Int):Option ((List (S103))):=(spec_liAll.f k a0_0 a0_1 l0_2 l0_3).bind fun t722 => (spec_liUsed.l0 k ([]:List (S103)) t722 (t722.length:Int) 0 a0_0 a0_1 l0_2 l0_3)
theorem spec_liUsed.mono_l:∀ k,(∀ y0 y1 y2 y3 y4 y5 y6 y7,LeO (spec_liUsed.l0 k y0 y1 y2 y3 y4 y5 y6 y7) (spec_liUsed.l0 (k + 1) y0 y1 y2 y3 y4 y5 y6 y7))
 | 0 => fun _ _ _ _ _ _ _ _ r h => by simp [spec_liUsed.l0] at h
 | k + 1 => by
  have ih0:=spec_liUsed.mono_l k
  ·intro y0 y1 y2 y3 y4 y5 y6 y7
   unfold spec_liUsed.l0
   repeat' first
   | (with_reducible exact ih0 _ _ _ _ _ _ _ _)
   | (with_reducible exact spec_liAll.mono _ _ _ _ _)
   | (with_reducible exact spec_liMeet.mono _ _ _ _ _ _ _)
   | (with_reducible exact LeO.refl _)
   | (with_reducible exact LeO.none _)
   | (with_reducible refine LeO.ite ?_ ?_)
   | (with_reducible refine LeO.bind ?_ (fun _ => ?_))
   | exact ih0 _ _ _ _ _ _ _ _
   | exact spec_liAll.mono _ _ _ _ _
   | exact spec_liMeet.mono _ _ _ _ _ _ _
   | exact LeO.none _
   | refine LeO.ite ?_ ?_
   | refine LeO.bind ?_ (fun _ => ?_)
theorem spec_liUsed.mono:∀ a0 a1 a2 a3 k,LeO (spec_liUsed.f k a0 a1 a2 a3) (spec_liUsed.f (k + 1) a0 a1 a2 a3):=by
 intro a0 a1 a2 a3 k
 have ih0:=spec_liUsed.mono_l k
 unfold spec_liUsed.f
 repeat' first
   | (with_reducible exact ih0 _ _ _ _ _ _ _ _)
   | (with_reducible exact spec_liAll.mono _ _ _ _ _)
   | (with_reducible exact spec_liMeet.mono _ _ _ _ _ _ _)
   | (with_reducible exact LeO.refl _)
   | (with_reducible exact LeO.none _)
   | (with_reducible refine LeO.ite ?_ ?_)
   | (with_reducible refine LeO.bind ?_ (fun _ => ?_))
   | exact ih0 _ _ _ _ _ _ _ _
   | exact spec_liAll.mono _ _ _ _ _
   | exact spec_liMeet.mono _ _ _ _ _ _ _
   | exact LeO.none _
   | refine LeO.ite ?_ ?_
   | refine LeO.bind ?_ (fun _ => ?_)
set_option maxHeartbeats 8000000 in
set_option maxRecDepth 100000 in
theorem spec_liUsed.calls (k:Nat) (a0_0:Int) (a0_1:Int) (A0_2:Option Addr) (c0_2:Nat) (l0_2:List Int) (A0_3:Option Addr) (c0_3:Nat) (l0_3:List Int) (r:List (S103)) (w:World) (hr0_2:Kd.C (Kd.int .i64) w A0_2 l0_2.length l0_2) (hc0_2:l0_2.length ≤ c0_2) (hr0_3:Kd.C (Kd.int .i64) w A0_3 l0_3.length l0_3) (hc0_3:l0_3.length ≤ c0_3) (h:spec_liUsed.f k a0_0 a0_1 l0_2 l0_3 = some r) :
  Calls Tryd.prog 94 #[.agg #[.int .i64 a0_0,.int .i64 a0_1,.slice A0_2 l0_2.length c0_2,.slice A0_3 l0_3.length c0_3]] w fun e w' => ∃ v0_:Value,e = .returned (v0_) ∧ Kd.R k103 103 w' w.heap.size (fun _ => True) v0_ r ∧ Below w.heap.size w w':=by
 have hu26:=Tryd.underlying26
 have hu103:=Tryd.underlying103
 have HR0_2:=Aside0.mk hr0_2
 have HC0_2:=Aside0.mk hc0_2
 clear hr0_2 hc0_2
 have HR0_3:=Aside0.mk hr0_3
 have HC0_3:=Aside0.mk hc0_3
 clear hr0_3 hc0_3
 have HB:=Aside0.mk (Below.refl w.heap.size w)
 have H:((spec_liAll.f k a0_0 a0_1 l0_2 l0_3).bind fun t722 => (spec_liUsed.l0 k ([]:List (S103)) t722 (t722.length:Int) 0 a0_0 a0_1 l0_2 l0_3)) = some r:=h
 clear h
 replace H:=Option.bind_eq_some_iff.mp H
 obtain ⟨t722,A20,H⟩:=H
 replace H:(spec_liUsed.l0 k ([]:List (S103)) t722 (t722.length:Int) 0 a0_0 a0_1 l0_2 l0_3) = some r:=H
 have A2:=Aside0.mk A20
 clear A20
 have H':=Aside0.mk H
 clear H
 go_enter Tryd.func94,Tryd.ntmps94
 go_wp2_with (first | ((with_reducible refine gate_dst (N:=1) rfl ?_); refine boxE_ (N:=1) (cs:=#[.int .i64 a0_0,.int .i64 a0_1,.slice A0_2 l0_2.length c0_2,.slice A0_3 l0_3.length c0_3]) (t:=26) ?_; intro gb721 hg w3 hbox hb; have n0_:=Aside0.mk (below_step (bl0_ HB.out) hb); have n1_:=Aside0.mk (hbox); have n2_:=Aside0.mk ((bs0_ hg HB.out:w.heap.size ≤ gb721)); have n3_:=Aside0.mk ((bs0_ hg HB.out:w.heap.size ≤ gb721)); clear HB; have HB:=n0_; have BK721:=n1_; have GW721:=n2_; have GE721:=n3_; clear n0_ n1_ n2_ n3_; clear hb hbox hg; have hcz4_0:w3.cell? ⟨gb721,0,none⟩ = some (.int .i64 a0_0):=(blk_cell BK721.out 0).trans rfl; have hcz4_1:w3.cell? ⟨gb721,1,none⟩ = some (.int .i64 a0_1):=(blk_cell BK721.out 1).trans rfl; have hcz4_2:w3.cell? ⟨gb721,2,none⟩ = some (.slice A0_2 l0_2.length c0_2):=(blk_cell BK721.out 2).trans rfl; have hcz4_3:w3.cell? ⟨gb721,3,none⟩ = some (.slice A0_3 l0_3.length c0_3):=(blk_cell BK721.out 3).trans rfl; have hfz4_0:=blk_frozen BK721.out 0; have hfz4_1:=blk_frozen BK721.out 1; have hfz4_2:=blk_frozen BK721.out 2; have hfz4_3:=blk_frozen BK721.out 3) | ((with_reducible refine gate_callee (f:=105) rfl ?_); refine goesL_ (some 7) rfl rfl Tryd.func105 (by kernel_rfl) rfl #[.agg #[.int .i64 a0_0,.int .i64 a0_1,.slice A0_2 l0_2.length c0_2,.slice A0_3 l0_3.length c0_3]] rfl ob_ ?_; (with_reducible refine (spec_liAll.calls k a0_0 a0_1 _ _ l0_2 _ _ l0_3 t722 _ ?side1 ?side2 ?side3 ?side4 A2.out).mono ?_); (case side1 => exact kc_ (Kd.C_below HR0_2.out HB.out)); (case side2 => exact HC0_2.out); (case side3 => exact kc_ (Kd.C_below HR0_3.out HB.out)); (case side4 => exact HC0_3.out); rintro e w5 ⟨v723,rfl,ho0,hb⟩; refine ⟨_,rfl,?_⟩; have n0_:=Aside0.mk (Kd.R_lower ho0 (below_size (bl1_ HB.out GE721.out))); have n1_:=Aside0.mk (bb_ BK721.out hb); have n2_:=Aside0.mk (below_step (bl1_ HB.out GE721.out) hb); clear BK721; clear HB; have HO724:=n0_; have BK721:=n1_; have HB:=n2_; clear n0_ n1_ n2_; (try clear hb); (try clear hb2); (try clear hk); (try clear hi); (try clear ho0); obtain ⟨Ao6,co6,eo6⟩:=Kd.R_slice HO724.out; subst eo6))
 go_loopg [3,9] k (fun kq v3 v9 w' => ∃ (x3_1:List (S103)) (x9_1:Int),v9 = .int .i64 x9_1 ∧ Aside0 (spec_liUsed.l0 kq x3_1 t722 (t722.length:Int) x9_1 a0_0 a0_1 l0_2 l0_3 = some r) ∧ Aside0 (kq ≤ k) ∧ Aside0 (Kd.R k103 103 w' w.heap.size (fun k_ => some k_ ≠ ((.slice Ao6 t722.length co6):Value).ownBlock) v3 x3_1) ∧ Aside0 (Kd.R k103 103 w' w.heap.size (fun k_ => some k_ ≠ (v3:Value).ownBlock) (.slice Ao6 t722.length co6) t722) ∧ Aside0 (w'.heap[gb721]? = some (.cells #[.int .i64 a0_0,.int .i64 a0_1,(.slice A0_2 l0_2.length c0_2),(.slice A0_3 l0_3.length c0_3)] 26 (0,0))) ∧ Aside0 (Below w.heap.size w w'))
 case atStart => exact ⟨(([]:List (S103))),(0),rs_,H',⟨Nat.le_refl _⟩,⟨by first | exact Kd.R_nil _ _ _ _ _ | exact Kd.N_nil _ _ _ _ _ | exact Kd.V_nil _ _ _ _ _ | exact Kd.Q_nil _ _ _ _ _ | exact Kd.S_nil _ _ _ _ _⟩,⟨by (with_reducible repeat (first | apply Kd.R_alloc | apply Kd.R_drewN | apply Kd.R_drew)); exact Kd.R_mono HO724.out (fun _ hk => (by simp [Value.ownBlock]))⟩,⟨bk_ BK721.out⟩,⟨bl1_ HB.out GE721.out⟩⟩
 case round =>
  clear H'
  try clear c1
  try clear p2
  try clear hcz4_0
  try clear hcz4_1
  try clear hcz4_2
  try clear hcz4_3
  try clear hfz4_0
  try clear hfz4_1
  try clear hfz4_2
  try clear hfz4_3
  obtain ⟨x3_1,x9_1,rfl,HA,HK1,HO_3,HO_7,BK721,HB⟩:=hrel
  cases gk with
  | zero => exact absurd HA.out (by simp [spec_liUsed.l0])
  | succ k1 =>
   have H:=HA.out
   clear HA
   simp only [spec_liUsed.l0] at H
   by_cases c7:x9_1 < (t722.length:Int)
   ·rw [if_pos c7] at H
    have c7b0:decide (x9_1 < (t722.length:Int)) = true:=decide_eq_true c7
    clear c7
    by_cases c8:0 ≤ x9_1
    ·rw [if_pos c8] at H
     have c8b0:decide (0 ≤ x9_1) = true:=decide_eq_true c8
     clear c8
     by_cases c9:x9_1 < (t722.length:Int)
     ·rw [if_pos c9] at H
      have c9b0:decide (x9_1 < (t722.length:Int)) = true:=decide_eq_true c9
      clear c9
      replace H:=Option.bind_eq_some_iff.mp H
      obtain ⟨t727,A100,H⟩:=H
      replace H:(if t727 > 0 then (if x3_1.length < 8796093022208 then (spec_liUsed.l0 k1 (x3_1 ++ [(⟨(rd_T103 t722 x9_1).f0,(rd_T103 t722 x9_1).f1⟩:S103)]) t722 (t722.length:Int) (wrap64 (x9_1 + 1)) a0_0 a0_1 l0_2 l0_3) else (none)) else (spec_liUsed.l0 k1 x3_1 t722 (t722.length:Int) (wrap64 (x9_1 + 1)) a0_0 a0_1 l0_2 l0_3)) = some r:=H
      have A10:=Aside0.mk A100
      clear A100
      by_cases c11:t727 > 0
      ·rw [if_pos c11] at H
       have c11b0:decide (0 < t727) = true:=decide_eq_true c11
       clear c11
       by_cases c12:x3_1.length < 8796093022208
       ·rw [if_pos c12] at H
        have LMc12:=Aside0.mk c12
        clear c12
        obtain ⟨y728,hy728⟩:∃ y_:List (S103),y_ = (x3_1 ++ [(⟨(rd_T103 t722 x9_1).f0,(rd_T103 t722 x9_1).f1⟩:S103)]):=⟨_,rfl⟩
        replace H:(spec_liUsed.l0 k1 y728 t722 (t722.length:Int) (wrap64 (x9_1 + 1)) a0_0 a0_1 l0_2 l0_3) = some r:=by first | (rw [hy728]; with_reducible exact H) | (have H2_:=(Option.bind_some _ _).symm.trans H; rw [hy728]; with_reducible exact H2_) | (have H2_:=(Option.bind_some _ _).symm.trans H; with_reducible exact H2_) | with_reducible exact H | (rw [hy728]; exact H) | exact H
        have Ny728:=Aside0.mk hy728
        clear hy728
        have H':=Aside0.mk H
        clear H
        have p725:0 ≤ (x9_1:Int):=of_decide_eq_true as_
        have q725:x9_1 < (t722.length:Int):=of_decide_eq_true as_
        obtain ⟨ad725,e725,hx725_0,hx725_1⟩:=at_T103 (Kd.R_reads' HO_7.out).2.2 x9_1 p725 q725
        cases e725
        replace p725:=eq_true p725
        replace q725:=eq_true q725
        go_wp2_with (first | ((with_reducible refine gate_dst (N:=5) rfl ?_); refine boxE_ (N:=5) (cs:=#[.int .i64 0,.int .i64 0]) (t:=103) ?_; intro gb726 hg w13 hbox hb; have n0_:=Aside0.mk (Kd.R_below (Kd.R_elderB (kr_ HO_3.out) gb726 (Nat.le_of_eq hg.symm)) hb); have n1_:=Aside0.mk (Kd.R_below (Kd.R_elderB (kr_ HO_7.out) gb726 (Nat.le_of_eq hg.symm)) hb); have n2_:=Aside0.mk (bb_ BK721.out hb); have n3_:=Aside0.mk (below_step (bl1_ HB.out GE721.out) hb); have n4_:=Aside0.mk (hbox); have n5_:=Aside0.mk ((bs1_ hg HB.out GE721.out:w.heap.size ≤ gb726)); have n6_:=Aside0.mk ((bs1_ hg HB.out GE721.out:w.heap.size ≤ gb726)); have n7_:=Aside0.mk ((nl_ hg BK721.out:gb721 ≠ gb726)); have n8_:=Aside0.mk ((ng_ hg BK721.out:gb726 ≠ gb721)); clear HO_3; clear HO_7; clear BK721; clear HB; have HO_3:=n0_; have HO_7:=n1_; have BK721:=n2_; have HB:=n3_; have BK726:=n4_; have GW726:=n5_; have GE726:=n6_; have NB721_726:=n7_; have NB726_721:=n8_; clear n0_ n1_ n2_ n3_ n4_ n5_ n6_ n7_ n8_; clear hb hbox hg; have hnb14:=NB726_721.out; have hnc14:=NB721_726.out; have hcz15_0:w13.cell? ⟨gb726,0,none⟩ = some (.int .i64 0):=(blk_cell BK726.out 0).trans rfl; have hcz15_1:w13.cell? ⟨gb726,1,none⟩ = some (.int .i64 0):=(blk_cell BK726.out 1).trans rfl; have hfz15_0:=blk_frozen BK726.out 0; have hfz15_1:=blk_frozen BK726.out 1; have hcz16_0:w13.cell? ⟨gb721,0,none⟩ = some (.int .i64 a0_0):=(blk_cell BK721.out 0).trans rfl; have hcz16_1:w13.cell? ⟨gb721,1,none⟩ = some (.int .i64 a0_1):=(blk_cell BK721.out 1).trans rfl; have hcz16_2:w13.cell? ⟨gb721,2,none⟩ = some (.slice A0_2 l0_2.length c0_2):=(blk_cell BK721.out 2).trans rfl; have hcz16_3:w13.cell? ⟨gb721,3,none⟩ = some (.slice A0_3 l0_3.length c0_3):=(blk_cell BK721.out 3).trans rfl; have hfz16_0:=blk_frozen BK721.out 0; have hfz16_1:=blk_frozen BK721.out 1; have hfz16_2:=blk_frozen BK721.out 2; have hfz16_3:=blk_frozen BK721.out 3) | ((with_reducible refine gate_callee (f:=106) rfl ?_); refine goesL_ (some 15) rfl rfl Tryd.func106 (by kernel_rfl) rfl #[.agg #[.int .i64 a0_0,.int .i64 a0_1,.slice A0_2 l0_2.length c0_2,.slice A0_3 l0_3.length c0_3],.agg #[.int .i64 ((rd_T103 t722 x9_1).f0),.int .i64 ((rd_T103 t722 x9_1).f1)]] rfl ob_ ?_; (with_reducible refine (spec_liMeet.calls k1 a0_0 a0_1 _ _ l0_2 _ _ l0_3 ((rd_T103 t722 x9_1).f0) ((rd_T103 t722 x9_1).f1) t727 _ ?side1 ?side2 ?side3 ?side4 A10.out).mono ?_); (case side1 => exact Kd.C_below HR0_2.out (bl2_ HB.out GE721.out GE726.out)); (case side2 => exact HC0_2.out); (case side3 => exact Kd.C_below HR0_3.out (bl2_ HB.out GE721.out GE726.out)); (case side4 => exact HC0_3.out); rintro e w17 ⟨rfl,hb⟩; refine ⟨_,rfl,?_⟩; have n0_:=Aside0.mk (Kd.R_below (by (with_reducible repeat (first | apply Kd.R_alloc | apply Kd.R_drewN | apply Kd.R_drew)); exact (Kd.R_mono (Kd.R_far (p:=⟨gb726,1,none⟩) (Kd.R_far (p:=⟨gb726,0,none⟩) (Kd.R_mono HO_3.out (fun k_ hk => (⟨hk,hk.2⟩:_ ∧ k_ ≠ gb726))) (fun _ hk => hk.2) (.int .i64 ((rd_T103 t722 x9_1).f0))) (fun _ hk => hk.2) (.int .i64 ((rd_T103 t722 x9_1).f1))) (fun _ h_ => h_.1))) hb); have n1_:=Aside0.mk (Kd.R_below (by (with_reducible repeat (first | apply Kd.R_alloc | apply Kd.R_drewN | apply Kd.R_drew)); exact (Kd.R_mono (Kd.R_far (p:=⟨gb726,1,none⟩) (Kd.R_far (p:=⟨gb726,0,none⟩) (Kd.R_mono HO_7.out (fun k_ hk => (⟨hk,hk.2⟩:_ ∧ k_ ≠ gb726))) (fun _ hk => hk.2) (.int .i64 ((rd_T103 t722 x9_1).f0))) (fun _ hk => hk.2) (.int .i64 ((rd_T103 t722 x9_1).f1))) (fun _ h_ => h_.1))) hb); have n2_:=Aside0.mk (blk_below (g:=gb721) (o:=.cells #[.int .i64 a0_0,.int .i64 a0_1,.slice A0_2 l0_2.length c0_2,.slice A0_3 l0_3.length c0_3] 26 (0,0)) (bf2_ NB721_726.out NB721_726.out BK721.out) hb); have n3_:=Aside0.mk (blk_below (g:=gb726) (o:=.cells #[.int .i64 ((rd_T103 t722 x9_1).f0),.int .i64 ((rd_T103 t722 x9_1).f1)] 103 (0,0)) (by (with_reducible repeat (first | refine blk_drewN ?_ _ | refine blk_drew ?_ | refine blk_alloc ?_ _)); refine blk_put (cs:=#[.int .i64 ((rd_T103 t722 x9_1).f0),.int .i64 0]) ?_ 1 _ rfl; (with_reducible repeat (first | refine blk_drewN ?_ _ | refine blk_drew ?_ | refine blk_alloc ?_ _)); refine blk_put (cs:=#[.int .i64 0,.int .i64 0]) ?_ 0 _ rfl; (with_reducible repeat (first | refine blk_drewN ?_ _ | refine blk_drew ?_ | refine blk_alloc ?_ _)); exact BK726.out) hb); have n4_:=Aside0.mk (below_step (bl2_ HB.out GE721.out GE726.out) hb); clear HO_3; clear HO_7; clear BK721; clear BK726; clear HB; have HO_3:=n0_; have HO_7:=n1_; have BK721:=n2_; have BK726:=n3_; have HB:=n4_; clear n0_ n1_ n2_ n3_ n4_; (try clear hb); (try clear hb2); (try clear hk); (try clear hi); have hcz18_0:w17.cell? ⟨gb726,0,none⟩ = some (.int .i64 ((rd_T103 t722 x9_1).f0)):=(blk_cell BK726.out 0).trans rfl; have hcz18_1:w17.cell? ⟨gb726,1,none⟩ = some (.int .i64 ((rd_T103 t722 x9_1).f1)):=(blk_cell BK726.out 1).trans rfl; have hfz18_0:=blk_frozen BK726.out 0; have hfz18_1:=blk_frozen BK726.out 1) | ((with_reducible refine gate_builtin (b:=.append) (xs:=#[.tmp 17,.tmp 19]) rfl ?_); at_builtin; refine Kd.R_append k103 (w0:=w) w.heap.size rfl (.tmp 17) (.tmp 19) 104 103 (.agg #[(.int .i64 0),(.int .i64 0)]) 16 rfl Tryd.underlying104 info103 rfl (by decide) (by omega) u3 x3_1 (⟨(rd_T103 t722 x9_1).f0,(rd_T103 t722 x9_1).f1⟩:S103) [.int .i64 ((rd_T103 t722 x9_1).f0),.int .i64 ((rd_T103 t722 x9_1).f1)] (fun k_ => some k_ ≠ (.slice (some ad725) t722.length co6:Value).ownBlock ∧ k_ ≠ gb726) (fun _ => False) rfl rfl ?aP (fun _ hk => hk.elim) ?aF ?aO ?aB ?aS ?aL ?_; (case aP => exact k103_mkM _ _ _ (⟨(rd_T103 t722 x9_1).f0,(rd_T103 t722 x9_1).f1⟩:S103)); (case aB => exact (bl2_ HB.out GE721.out GE726.out)); (case aF => exact (fun k_ hk => ⟨Kd.fresh' (Kd.R_lt (kr_ HO_7.out)) k_ hk,Kd.freshB (g:=gb726) (o:=.cells #[.int .i64 ((rd_T103 t722 x9_1).f0),.int .i64 ((rd_T103 t722 x9_1).f1)] 103 (0,0)) (bk_ BK726.out) k_ hk⟩)); (case aO => exact (kr_ HO_3.out)); (case aS => exact (below_size (bl2_ HB.out GE721.out GE726.out))); (case aL => have:=LMc12.out; omega); intro v729 w19 ho hb hg hat; rw [← Ny728.out] at ho; have n0_:=Aside0.mk (Kd.R_after (ok:=(fun k_ => k_ ≠ gb726)) (by (with_reducible repeat (first | apply Kd.R_alloc | apply Kd.R_drewN | apply Kd.R_drew)); exact Kd.R_mono HO_7.out (fun _ hk => ⟨hk.2,hk.1⟩)) hg hat); have n1_:=Aside0.mk (blk_grown (g:=gb721) (o:=.cells #[.int .i64 a0_0,.int .i64 a0_1,.slice A0_2 l0_2.length c0_2,.slice A0_3 l0_3.length c0_3] 26 (0,0)) (bk_ BK721.out) hg (Kd.R_ne HO_3.out BK721.out (by decide))); have n2_:=Aside0.mk (blk_grown (g:=gb726) (o:=.cells #[.int .i64 ((rd_T103 t722 x9_1).f0),.int .i64 ((rd_T103 t722 x9_1).f1)] 103 (0,0)) (bk_ BK726.out) hg (Kd.R_away HO_3.out (fun _ hk => hk.2))); have n3_:=Aside0.mk (hb); have n4_:=Aside0.mk (ho); clear HO_7; clear BK721; clear BK726; clear HB; clear HO_3; have HO_7:=n0_; have BK721:=n1_; have BK726:=n2_; have HB:=n3_; have HO730:=n4_; clear n0_ n1_ n2_ n3_ n4_; clear ho hb hg hat))
        go_roundg k1
        case measure => have:=HK1.out; omega
        case rel => exact ⟨(y728),(wrap64 (x9_1 + 1)),rs_,H',⟨by have:=HK1.out; omega⟩,⟨by (with_reducible repeat (first | apply Kd.R_alloc | apply Kd.R_drewN | apply Kd.R_drew)); exact Kd.R_mono HO730.out (fun _ hk => hk.1)⟩,⟨by (with_reducible repeat (first | apply Kd.R_alloc | apply Kd.R_drewN | apply Kd.R_drew)); exact Kd.R_mono HO_7.out (fun _ hk => hk.2)⟩,⟨bk_ BK721.out⟩,⟨bl2_ HB.out GE721.out GE726.out⟩⟩
       ·rw [if_neg c12] at H
        exact absurd H (by simp)
      ·rw [if_neg c11] at H
       have c11b0:decide (0 < t727) = false:=decide_eq_false c11
       clear c11
       have H':=Aside0.mk H
       clear H
       have p725:0 ≤ (x9_1:Int):=of_decide_eq_true as_
       have q725:x9_1 < (t722.length:Int):=of_decide_eq_true as_
       obtain ⟨ad725,e725,hx725_0,hx725_1⟩:=at_T103 (Kd.R_reads' HO_7.out).2.2 x9_1 p725 q725
       cases e725
       replace p725:=eq_true p725
       replace q725:=eq_true q725
       go_wp2_with (first | ((with_reducible refine gate_dst (N:=5) rfl ?_); refine boxE_ (N:=5) (cs:=#[.int .i64 0,.int .i64 0]) (t:=103) ?_; intro gb726 hg w20 hbox hb; have n0_:=Aside0.mk (Kd.R_below (Kd.R_elderB (kr_ HO_3.out) gb726 (Nat.le_of_eq hg.symm)) hb); have n1_:=Aside0.mk (Kd.R_below (Kd.R_elderB (kr_ HO_7.out) gb726 (Nat.le_of_eq hg.symm)) hb); have n2_:=Aside0.mk (bb_ BK721.out hb); have n3_:=Aside0.mk (below_step (bl1_ HB.out GE721.out) hb); have n4_:=Aside0.mk (hbox); have n5_:=Aside0.mk ((bs1_ hg HB.out GE721.out:w.heap.size ≤ gb726)); have n6_:=Aside0.mk ((bs1_ hg HB.out GE721.out:w.heap.size ≤ gb726)); have n7_:=Aside0.mk ((nl_ hg BK721.out:gb721 ≠ gb726)); have n8_:=Aside0.mk ((ng_ hg BK721.out:gb726 ≠ gb721)); clear HO_3; clear HO_7; clear BK721; clear HB; have HO_3:=n0_; have HO_7:=n1_; have BK721:=n2_; have HB:=n3_; have BK726:=n4_; have GW726:=n5_; have GE726:=n6_; have NB721_726:=n7_; have NB726_721:=n8_; clear n0_ n1_ n2_ n3_ n4_ n5_ n6_ n7_ n8_; clear hb hbox hg; have hnb21:=NB726_721.out; have hnc21:=NB721_726.out; have hcz22_0:w20.cell? ⟨gb726,0,none⟩ = some (.int .i64 0):=(blk_cell BK726.out 0).trans rfl; have hcz22_1:w20.cell? ⟨gb726,1,none⟩ = some (.int .i64 0):=(blk_cell BK726.out 1).trans rfl; have hfz22_0:=blk_frozen BK726.out 0; have hfz22_1:=blk_frozen BK726.out 1; have hcz23_0:w20.cell? ⟨gb721,0,none⟩ = some (.int .i64 a0_0):=(blk_cell BK721.out 0).trans rfl; have hcz23_1:w20.cell? ⟨gb721,1,none⟩ = some (.int .i64 a0_1):=(blk_cell BK721.out 1).trans rfl; have hcz23_2:w20.cell? ⟨gb721,2,none⟩ = some (.slice A0_2 l0_2.length c0_2):=(blk_cell BK721.out 2).trans rfl; have hcz23_3:w20.cell? ⟨gb721,3,none⟩ = some (.slice A0_3 l0_3.length c0_3):=(blk_cell BK721.out 3).trans rfl; have hfz23_0:=blk_frozen BK721.out 0; have hfz23_1:=blk_frozen BK721.out 1; have hfz23_2:=blk_frozen BK721.out 2; have hfz23_3:=blk_frozen BK721.out 3) | ((with_reducible refine gate_callee (f:=106) rfl ?_); refine goesL_ (some 15) rfl rfl Tryd.func106 (by kernel_rfl) rfl #[.agg #[.int .i64 a0_0,.int .i64 a0_1,.slice A0_2 l0_2.length c0_2,.slice A0_3 l0_3.length c0_3],.agg #[.int .i64 ((rd_T103 t722 x9_1).f0),.int .i64 ((rd_T103 t722 x9_1).f1)]] rfl ob_ ?_; (with_reducible refine (spec_liMeet.calls k1 a0_0 a0_1 _ _ l0_2 _ _ l0_3 ((rd_T103 t722 x9_1).f0) ((rd_T103 t722 x9_1).f1) t727 _ ?side1 ?side2 ?side3 ?side4 A10.out).mono ?_); (case side1 => exact Kd.C_below HR0_2.out (bl2_ HB.out GE721.out GE726.out)); (case side2 => exact HC0_2.out); (case side3 => exact Kd.C_below HR0_3.out (bl2_ HB.out GE721.out GE726.out)); (case side4 => exact HC0_3.out); rintro e w24 ⟨rfl,hb⟩; refine ⟨_,rfl,?_⟩; have n0_:=Aside0.mk (Kd.R_below (by (with_reducible repeat (first | apply Kd.R_alloc | apply Kd.R_drewN | apply Kd.R_drew)); exact (Kd.R_mono (Kd.R_far (p:=⟨gb726,1,none⟩) (Kd.R_far (p:=⟨gb726,0,none⟩) (Kd.R_mono HO_3.out (fun k_ hk => (⟨hk,hk.2⟩:_ ∧ k_ ≠ gb726))) (fun _ hk => hk.2) (.int .i64 ((rd_T103 t722 x9_1).f0))) (fun _ hk => hk.2) (.int .i64 ((rd_T103 t722 x9_1).f1))) (fun _ h_ => h_.1))) hb); have n1_:=Aside0.mk (Kd.R_below (by (with_reducible repeat (first | apply Kd.R_alloc | apply Kd.R_drewN | apply Kd.R_drew)); exact (Kd.R_mono (Kd.R_far (p:=⟨gb726,1,none⟩) (Kd.R_far (p:=⟨gb726,0,none⟩) (Kd.R_mono HO_7.out (fun k_ hk => (⟨hk,hk.2⟩:_ ∧ k_ ≠ gb726))) (fun _ hk => hk.2) (.int .i64 ((rd_T103 t722 x9_1).f0))) (fun _ hk => hk.2) (.int .i64 ((rd_T103 t722 x9_1).f1))) (fun _ h_ => h_.1))) hb); have n2_:=Aside0.mk (blk_below (g:=gb721) (o:=.cells #[.int .i64 a0_0,.int .i64 a0_1,.slice A0_2 l0_2.length c0_2,.slice A0_3 l0_3.length c0_3] 26 (0,0)) (bf2_ NB721_726.out NB721_726.out BK721.out) hb); have n3_:=Aside0.mk (blk_below (g:=gb726) (o:=.cells #[.int .i64 ((rd_T103 t722 x9_1).f0),.int .i64 ((rd_T103 t722 x9_1).f1)] 103 (0,0)) (by (with_reducible repeat (first | refine blk_drewN ?_ _ | refine blk_drew ?_ | refine blk_alloc ?_ _)); refine blk_put (cs:=#[.int .i64 ((rd_T103 t722 x9_1).f0),.int .i64 0]) ?_ 1 _ rfl; (with_reducible repeat (first | refine blk_drewN ?_ _ | refine blk_drew ?_ | refine blk_alloc ?_ _)); refine blk_put (cs:=#[.int .i64 0,.int .i64 0]) ?_ 0 _ rfl; (with_reducible repeat (first | refine blk_drewN ?_ _ | refine blk_drew ?_ | refine blk_alloc ?_ _)); exact BK726.out) hb); have n4_:=Aside0.mk (below_step (bl2_ HB.out GE721.out GE726.out) hb); clear HO_3; clear HO_7; clear BK721; clear BK726; clear HB; have HO_3:=n0_; have HO_7:=n1_; have BK721:=n2_; have BK726:=n3_; have HB:=n4_; clear n0_ n1_ n2_ n3_ n4_; (try clear hb); (try clear hb2); (try clear hk); (try clear hi)))
       go_roundg k1
       case measure => have:=HK1.out; omega
       case rel => exact ⟨(x3_1),(wrap64 (x9_1 + 1)),rs_,H',⟨by have:=HK1.out; omega⟩,⟨by (with_reducible repeat (first | apply Kd.R_alloc | apply Kd.R_drewN | apply Kd.R_drew)); exact Kd.R_mono HO_3.out (fun _ hk => hk.1)⟩,⟨by (with_reducible repeat (first | apply Kd.R_alloc | apply Kd.R_drewN | apply Kd.R_drew)); exact Kd.R_mono HO_7.out (fun _ hk => hk.1)⟩,⟨bk_ BK721.out⟩,⟨bl2_ HB.out GE721.out GE726.out⟩⟩
     ·rw [if_neg c9] at H
      exact absurd H (by simp)
    ·rw [if_neg c8] at H
     exact absurd H (by simp)
   ·rw [if_neg c7] at H
    have c7b0:decide (x9_1 < (t722.length:Int)) = false:=decide_eq_false c7
    clear c7
    obtain rfl:=Option.some.inj H
    go_wp2
    go_ret
    exact ⟨_,er_,by (with_reducible repeat (first | apply Kd.R_alloc | apply Kd.R_drewN | apply Kd.R_drew)); exact Kd.R_mono HO_3.out (fun _ hk => trivial),bl1_ HB.out GE721.out⟩


def liParts_T3:Bool × List (List Nat × List Nat):=(true,[([],[]),([],[]),([1],[1]),([2],[2]),([3],[3]),([0,4,2],[0,4]),([],[]),([6,5,5,0,1,2,3,4,5,6],[5,6])])
def liParts_B3:List Nat:=[0,0,2,6,14,31,0,127]
theorem liParts_tab3:rtab .any (opsOf Tryd.f65 3) = liParts_T3:=by kernel_rfl
theorem liParts_bits3:waitsOk liParts_T3.2 liParts_B3 = true:=by kernel_rfl
def spec_liParts.l0:Nat → List S26 → Int → Int → List Int → List Int → Option (List S26)
 | 0,_,_,_,_,_ => none
 | k + 1,out,a,b,l2,l3 => (spec_fiCount.f a b l2 l3).bind fun n => if 0 < n then (spec_liUsed.f k a b l2 l3).bind fun us => if 0 < us.length then (spec_liPart.f k a b l2 l3 (us.getD 0 ⟨0,0⟩).f0 (us.getD 0 ⟨0,0⟩).f1).bind fun p => if out.length < 2199023255552 then (spec_fiLess.f k a b l2 l3 p.1 p.2.1 p.2.2.1 p.2.2.2).bind fun g => spec_liParts.l0 k (out ++ [(⟨p.1,p.2.1,p.2.2.1,p.2.2.2⟩:S26)]) g.1 g.2.1 g.2.2.1 g.2.2.2 else none else none else some out
def spec_liParts.f (k:Nat) (a0_0:Int) (a0_1:Int) (l0_2:List Int) (l0_3:List Int):Option (List S26):=spec_liParts.l0 k [] a0_0 a0_1 l0_2 l0_3
theorem spec_liParts.mono_l:∀ k y0 y1 y2 y3 y4,LeO (spec_liParts.l0 k y0 y1 y2 y3 y4) (spec_liParts.l0 (k + 1) y0 y1 y2 y3 y4)
 | 0 => fun _ _ _ _ _ r h => by simp [spec_liParts.l0] at h
 | k + 1 => by
  have ih0:=spec_liParts.mono_l k
  intro y0 y1 y2 y3 y4
  unfold spec_liParts.l0
  repeat' first
   | (with_reducible exact ih0 _ _ _ _ _)
   | (with_reducible exact spec_liUsed.mono _ _ _ _ _)
   | (with_reducible exact spec_liPart.mono _ _ _ _ _ _ _)
   | (with_reducible exact spec_fiLess.mono _ _ _ _ _ _ _ _ _)
   | (with_reducible exact LeO.refl _)
   | (with_reducible exact LeO.none _)
   | (with_reducible refine LeO.ite ?_ ?_)
   | (with_reducible refine LeO.bind ?_ (fun _ => ?_))
   | exact ih0 _ _ _ _ _
   | exact LeO.none _
   | refine LeO.ite ?_ ?_
   | refine LeO.bind ?_ (fun _ => ?_)
theorem spec_liParts.mono:∀ a0 a1 a2 a3 k,LeO (spec_liParts.f k a0 a1 a2 a3) (spec_liParts.f (k + 1) a0 a1 a2 a3):=fun a0 a1 a2 a3 k => spec_liParts.mono_l k _ _ _ _ _
theorem addr0 (a:Addr):a.add ((0:Int).toNat * 2) = a:=rfl
def FigC (w w':World) (gb:Nat) (A:Option Addr) (c:Nat) (l:List Int):Prop:=l.length ≤ c ∧ (Kd.C (Kd.int .i64) w A l.length l ∨ Kd.R (Kd.int .i64) 3 w' w.heap.size (fun k => k ≠ gb) (.slice A l.length c) l)
theorem FigC.len {w w':World} {gb:Nat} {A:Option Addr} {c:Nat} {l:List Int} (h:FigC w w' gb A c l):l.length ≤ c:=h.1
theorem FigC.read {w w':World} {gb:Nat} {A:Option Addr} {c:Nat} {l:List Int} (h:FigC w w' gb A c l) (hB:Below w.heap.size w w'):Kd.C (Kd.int .i64) w' A l.length l:=by
 rcases h.2 with h | h
 ·exact Kd.C_below h hB
 ·exact (Kd.R_reads' h).2.2
theorem FigC.below {w w1 w2:World} {gb:Nat} {A:Option Addr} {c:Nat} {l:List Int} (h:FigC w w1 gb A c l) (hb:Below w1.heap.size w1 w2):FigC w w2 gb A c l:=⟨h.1,h.2.imp (fun h => h) (fun h => Kd.R_below h hb)⟩
theorem FigC.far {w w1:World} {gb:Nat} {A:Option Addr} {c:Nat} {l:List Int} (h:FigC w w1 gb A c l) (j:Nat) (v:Value):FigC w (w1.setCell ⟨gb,j,none⟩ v) gb A c l:=⟨h.1,h.2.imp (fun h => h) (fun h => Kd.R_far h (fun k hk => hk) v)⟩
theorem FigC.over {w w1 w2:World} {gb:Nat} {A:Option Addr} {c:Nat} {l:List Int} {v:Value} {e':Nat} (h:FigC w w1 gb A c l) (hty:∀ k,v.ownBlock = some k → ∃ cells,w1.heap[k]? = some (.cells cells e' (0,0))) (ht:∀ q,q ∈ 3 :: (Kd.int .i64).E → q ≠ e') (hg:w1.grownBy w2 v.ownBlock):FigC w w2 gb A c l:=⟨h.1,h.2.imp (fun h => h) (fun h => Kd.R_over' h hty ht hg)⟩
set_option maxRecDepth 100000 in
set_option maxHeartbeats 8000000 in
theorem spec_liParts.calls (k:Nat) (a0_0:Int) (a0_1:Int) (A0_2:Option Addr) (c0_2:Nat) (l0_2:List Int) (A0_3:Option Addr) (c0_3:Nat) (l0_3:List Int) (r:List S26) (w:World) (hr0_2:Kd.C (Kd.int .i64) w A0_2 l0_2.length l0_2) (hc0_2:l0_2.length ≤ c0_2) (hr0_3:Kd.C (Kd.int .i64) w A0_3 l0_3.length l0_3) (hc0_3:l0_3.length ≤ c0_3) (h:spec_liParts.f k a0_0 a0_1 l0_2 l0_3 = some r) :
  Calls Tryd.prog 65 #[.agg #[.int .i64 a0_0,.int .i64 a0_1,.slice A0_2 l0_2.length c0_2,.slice A0_3 l0_3.length c0_3]] w fun e w' => ∃ v0_:Value,e = .returned v0_ ∧ Kd.S k26 26 w' w.heap.size (fun _ => True) v0_ r ∧ Below w.heap.size w w':=by
 have H':=Aside0.mk (show spec_liParts.l0 k [] a0_0 a0_1 l0_2 l0_3 = some r from h)
 have F20:FigC w (w.alloc (.cells #[.int .i64 a0_0,.int .i64 a0_1,.slice A0_2 l0_2.length c0_2,.slice A0_3 l0_3.length c0_3] 26)) w.heap.size A0_2 c0_2 l0_2:=⟨hc0_2,.inl hr0_2⟩
 have F30:FigC w (w.alloc (.cells #[.int .i64 a0_0,.int .i64 a0_1,.slice A0_2 l0_2.length c0_2,.slice A0_3 l0_3.length c0_3] 26)) w.heap.size A0_3 c0_3 l0_3:=⟨hc0_3,.inl hr0_3⟩
 have F2:=Aside0.mk F20
 have F3:=Aside0.mk F30
 have BK:=Aside0.mk (heap_alloc_new w (.cells #[.int .i64 a0_0,.int .i64 a0_1,.slice A0_2 l0_2.length c0_2,.slice A0_3 l0_3.length c0_3] 26))
 have HB:=Aside0.mk (below_alloc (Below.refl w.heap.size w) (.cells #[.int .i64 a0_0,.int .i64 a0_1,.slice A0_2 l0_2.length c0_2,.slice A0_3 l0_3.length c0_3] 26))
 have GE:Aside0 (w.heap.size ≤ w.heap.size):=⟨Nat.le_refl _⟩
 clear hr0_2 hc0_2 hr0_3 hc0_3 h F20 F30
 go_enter Tryd.func65,Tryd.ntmps65
 go_wp2_with fail
 generalize hgb:w.heap.size = gb at F2 F3 BK ⊢
 have GE:Aside0 (w.heap.size ≤ gb):=⟨by omega⟩
 clear hgb
 generalize w.alloc (.cells #[.int .i64 a0_0,.int .i64 a0_1,.slice A0_2 l0_2.length c0_2,.slice A0_3 l0_3.length c0_3] 26) = W0 at F2 F3 BK HB ⊢
 go_loopg [3] k (fun kq v3 w' => ∃ (a b:Int) (A2:Option Addr) (c2:Nat) (l2:List Int) (A3:Option Addr) (c3:Nat) (l3:List Int) (out:List S26),Aside0 (spec_liParts.l0 kq out a b l2 l3 = some r) ∧ Aside0 (kq ≤ k) ∧ Aside0 (Kd.S k26 26 w' w.heap.size (fun k_ => k_ ≠ gb) v3 out) ∧ Aside0 (w'.heap[gb]? = some (.cells #[.int .i64 a,.int .i64 b,.slice A2 l2.length c2,.slice A3 l3.length c3] 26 (0,0))) ∧ Aside0 (FigC w w' gb A2 c2 l2) ∧ Aside0 (FigC w w' gb A3 c3 l3) ∧ Aside0 (Below w.heap.size w w'))
 case atStart => exact ⟨_,_,_,_,_,_,_,_,[],H',⟨Nat.le_refl _⟩,⟨Kd.S_nil _ _ _ _ _⟩,BK,F2,F3,HB⟩
 case round =>
  clear H' BK F2 F3 HB
  obtain ⟨a,b,A2,c2,l2,A3,c3,l3,out,HA,HK1,HO,BK,F2,F3,HB⟩:=hrel
  cases gk with
  | zero => exact absurd HA.out (by simp [spec_liParts.l0])
  | succ k1 =>
   have H:=HA.out
   clear HA
   rw [spec_liParts.l0] at H
   obtain ⟨n,hn,H⟩:=Option.bind_eq_some_iff.mp H
   have AN:=Aside0.mk hn
   clear hn
   have hcz0:wr.cell? ⟨gb,0,none⟩ = some (.int .i64 a):=(blk_cell BK.out 0).trans rfl
   have hcz1:wr.cell? ⟨gb,1,none⟩ = some (.int .i64 b):=(blk_cell BK.out 1).trans rfl
   have hcz2:wr.cell? ⟨gb,2,none⟩ = some (.slice A2 l2.length c2):=(blk_cell BK.out 2).trans rfl
   have hcz3:wr.cell? ⟨gb,3,none⟩ = some (.slice A3 l3.length c3):=(blk_cell BK.out 3).trans rfl
   by_cases hpos:0 < n
   ·rw [if_pos hpos] at H
    obtain ⟨us,hus,H⟩:=Option.bind_eq_some_iff.mp H
    have AU:=Aside0.mk hus
    clear hus
    by_cases hul:0 < us.length
    ·rw [if_pos hul] at H
     obtain ⟨⟨p1,p2,p3,p4⟩,hpp,H⟩:=Option.bind_eq_some_iff.mp H
     obtain ⟨u0,hu0⟩:∃ u0,us.getD 0 ⟨0,0⟩ = u0:=⟨_,rfl⟩
     rw [hu0] at hpp
     have AP:=Aside0.mk hpp
     have HU0:Aside0 (rd_T103 us 0 = u0):=⟨hu0⟩
     clear hpp hu0
     by_cases hol:out.length < 2199023255552
     ·rw [if_pos hol] at H
      have LM:=Aside0.mk hol
      clear hol
      obtain ⟨⟨g1,g2,g3,g4⟩,hgg,H⟩:=Option.bind_eq_some_iff.mp H
      have AL:=Aside0.mk hgg
      have HN:=Aside0.mk H
      clear hgg H
      have hd:decide ((0:Int) < n) = true:=decide_eq_true hpos
      have HUL:Aside0 ((0:Int) < (us.length:Int)):=⟨by omega⟩
      clear hpos hul
      go_wp2_with (go_at_call 92; refine (spec_fiCount.calls a b A2 c2 l2 A3 c3 l3 n _ (FigC.read F2.out HB.out) (FigC.len F2.out) (FigC.read F3.out HB.out) (FigC.len F3.out) AN.out).mono ?_; rintro e w1 ⟨rfl,hb⟩; have n0_:=Aside0.mk (Kd.S_below HO.out hb); have n1_:=Aside0.mk (blk_below BK.out hb); have n2_:=Aside0.mk (FigC.below F2.out hb); have n3_:=Aside0.mk (FigC.below F3.out hb); have n4_:=Aside0.mk (below_step HB.out hb); clear HO BK F2 F3 HB hcz0 hcz1 hcz2 hcz3 hb; have HO:=n0_; have BK:=n1_; have F2:=n2_; have F3:=n3_; have HB:=n4_; clear n0_ n1_ n2_ n3_ n4_)
      have n0_:=Aside0.mk (Kd.S_drew HO.out)
      have n1_:=Aside0.mk (blk_drew BK.out)
      have n2_:=Aside0.mk (FigC.below F2.out (below_drew (Below.refl _ _)))
      have n3_:=Aside0.mk (FigC.below F3.out (below_drew (Below.refl _ _)))
      have n4_:=Aside0.mk (below_drew1 HB.out)
      clear HO BK F2 F3 HB
      have HO:=n0_
      have BK:=n1_
      have F2:=n2_
      have F3:=n3_
      have HB:=n4_
      clear n0_ n1_ n2_ n3_ n4_
      have HLT:Aside0 (∀ k,u3.ownBlock = some k → k < w1.drew.heap.size):=⟨Kd.S_lt HO.out⟩
      have HGB:Aside0 (gb < w1.drew.heap.size):=⟨blk_lt BK.out⟩
      have hulT:((0:Int) < (us.length:Int)) = True:=eq_true HUL.out
      have hulN:(0 < us.length) = True:=eq_true (by have:=HUL.out; omega)
      refine start_ (n:=8) (S:=fun w' => w'.cell? ⟨gb,0,none⟩ = some (.int .i64 a) ∧ w'.cell? ⟨gb,1,none⟩ = some (.int .i64 b) ∧ w'.cell? ⟨gb,2,none⟩ = some (.slice A2 l2.length c2) ∧ w'.cell? ⟨gb,3,none⟩ = some (.slice A3 l3.length c3)) (ds:=[]) #[Ff,Ff,Ff,Ff,Ff,Ff,Ff,Ff] (by kernel_rfl) rfl rfl ⟨(blk_cell BK.out 0).trans rfl,(blk_cell BK.out 1).trans rfl,(blk_cell BK.out 2).trans rfl,(blk_cell BK.out 3).trans rfl⟩ (fun hHeld => ?_)
      refine with_tabW liParts_tab3 liParts_bits3 (fun HT_ HW_ => ?_)
      generalize w1.drew = W5 at BK HO F2 F3 HB HLT HGB hHeld ⊢
      have hS:∀ w',Below W5.heap.size W5 w' → w'.cell? ⟨gb,0,none⟩ = some (.int .i64 a) ∧ w'.cell? ⟨gb,1,none⟩ = some (.int .i64 b) ∧ w'.cell? ⟨gb,2,none⟩ = some (.slice A2 l2.length c2) ∧ w'.cell? ⟨gb,3,none⟩ = some (.slice A3 l3.length c3):=fun w' hb => ⟨(hb.cell (World.block_lt_of_cell? W5 _ (hHeld.1))).trans (hHeld.1),(hb.cell (World.block_lt_of_cell? W5 _ (hHeld.2.1))).trans (hHeld.2.1),(hb.cell (World.block_lt_of_cell? W5 _ (hHeld.2.2.1))).trans (hHeld.2.2.1),(hb.cell (World.block_lt_of_cell? W5 _ (hHeld.2.2.2))).trans (hHeld.2.2.2)⟩
      have HB5:Aside0 (Below W5.heap.size W5 W5):=⟨Below.refl _ _⟩
      refine tZ (i:=0) (N:=some 8) #[Tt,Ff,Ff,Ff,Ff,Ff,Ff,Ff] ?_
      refine tZ (i:=1) (N:=some 9) #[Tt,Tt,Ff,Ff,Ff,Ff,Ff,Ff] ?_
      refine join_ (σ:=Value × Value × Value × Value × Nat) 1 #[Tt,Tt,Tt,Tt,Tt,Tt,Tt,Ff] (fun s_ => [(10,s_.1),(11,s_.2.1),(12,.agg #[.int .i64 u0.f0,.int .i64 u0.f1]),(13,.agg #[.int .i64 p1,.int .i64 p2,s_.2.2.1,s_.2.2.2.1]),(4,.pointer (some ⟨s_.2.2.2.2,0,none⟩))]) (fun s_ w' => Below W5.heap.size W5 w' ∧ Kd.R (Kd.int .i64) 3 w' W5.heap.size (fun k_ => some k_ ≠ (s_.2.2.2.1:Value).ownBlock) s_.2.2.1 p3 ∧ Kd.R (Kd.int .i64) 3 w' W5.heap.size (fun k_ => some k_ ≠ (s_.2.2.1:Value).ownBlock) s_.2.2.2.1 p4 ∧ w'.heap[s_.2.2.2.2]? = some (.cells #[.int .i64 0,.int .i64 0,.slice none 0 0,.slice none 0 0] 26 (0,0)) ∧ W5.heap.size ≤ s_.2.2.2.2) ?_ ?_
      rotate_left
      ·intro hCont
       have hbs:=HB5.out.size
       refine two_ (i:=2) (j:=6) (Ni:=some 10) (Nj:=some 4) #[Tt,Tt,Tt,Ff,Ff,Ff,Ff,Ff] #[Tt,Tt,Ff,Ff,Ff,Ff,Tt,Ff] rfl rfl rfl rfl (two_of HT_.out (by kernel_rfl)) (by decide) (by decide) (fun K hK => ?_) (fun K hK => ?_)
       ·refine goes_ Tryd.func94 (by kernel_rfl) rfl #[.agg #[.int .i64 a,.int .i64 b,.slice A2 l2.length c2,.slice A3 l3.length c3]] (by rfl) rfl rfl (by (try simp only [List.map_toArray,List.map_cons,List.map_nil]); first | done | rfl) ?_
        with_reducible refine (spec_liUsed.calls k1 a b A2 c2 l2 A3 c3 l3 us _ (FigC.read (FigC.below F2.out HB5.out) (below_step HB.out HB5.out)) (FigC.len F2.out) (FigC.read (FigC.below F3.out HB5.out) (below_step HB.out HB5.out)) (FigC.len F3.out) AU.out).mono ?_
        rintro e v6 ⟨vu,rfl,hou,hb⟩
        refine ⟨_,rfl,?_⟩
        have n0_:=Aside0.mk (below_step HB5.out hb)
        have m0_:=Aside0.mk (Kd.R_lower hou HB5.out.size)
        clear HB5
        have HB5:=n0_
        have HU:=m0_
        clear n0_ m0_
        clear hou hb
        obtain ⟨Au,cu,rfl⟩:=Kd.R_slice HU.out
        obtain ⟨adu,hea,hxa,hya⟩:=at_T103 (Kd.R_reads' HU.out).2.2 0 (by omega) HUL.out
        subst hea
        clear hxa hya
        refine hK.out _ _ (hS _ HB5.out) (fun hHeld => ?_)
        clear hK K
        refine norm_ (a':=_) ap_ ?_
        refine pZ (i:=3) (N:=some 11) #[Tt,Tt,Tt,Tt,Ff,Ff,Ff,Ff] ?_
        have hbs:=HB5.out.size
        refine two_ (i:=4) (j:=6) (Ni:=some 12) (Nj:=some 4) #[Tt,Tt,Tt,Tt,Tt,Ff,Ff,Ff] #[Tt,Tt,Tt,Tt,Ff,Ff,Tt,Ff] rfl rfl rfl rfl (two_of HT_.out (by kernel_rfl)) (by decide) (by decide) (fun K hK => ?_) (fun K hK => ?_)
        ·obtain ⟨adx,hea,hxa,hya⟩:=at_T103 (Kd.R_reads' HU.out).2.2 0 (by omega) HUL.out
         cases hea
         rw [HU0.out,addr0] at hxa hya
         refine value_ (w1:=?_) (v:=.agg #[.int .i64 u0.f0,.int .i64 u0.f1]) (by rfl) rfl ?_ ?_
         rotate_left
         ·go_simp
          first | rfl | (constructor <;> rfl)
         clear hxa hya
         refine hK.out _ _ (hS _ HB5.out) (fun hHeld => ?_)
         clear hK K
         refine norm_ (a':=_) ap_ ?_
         have hbs:=HB5.out.size
         refine two_ (i:=5) (j:=6) (Ni:=some 13) (Nj:=some 4) #[Tt,Tt,Tt,Tt,Tt,Tt,Ff,Ff] #[Tt,Tt,Tt,Tt,Tt,Ff,Tt,Ff] rfl rfl rfl rfl (two_of HT_.out (by kernel_rfl)) (by decide) (by decide) (fun K hK => ?_) (fun K hK => ?_)
         ·refine goes_ Tryd.func93 (by kernel_rfl) rfl #[.agg #[.int .i64 a,.int .i64 b,.slice A2 l2.length c2,.slice A3 l3.length c3],.agg #[.int .i64 u0.f0,.int .i64 u0.f1]] (by rfl) rfl rfl (by (try simp only [List.map_toArray,List.map_cons,List.map_nil]); first | done | rfl) ?_
          with_reducible refine (spec_liPart.calls k1 a b A2 c2 l2 A3 c3 l3 u0.f0 u0.f1 p1 p2 p3 p4 _ (FigC.read (FigC.below F2.out HB5.out) (below_step HB.out HB5.out)) (FigC.len F2.out) (FigC.read (FigC.below F3.out HB5.out) (below_step HB.out HB5.out)) (FigC.len F3.out) AP.out).mono ?_
          rintro e v8 ⟨vp,vq,rfl,hop,hoq,hb⟩
          refine ⟨_,rfl,?_⟩
          have n0_:=Aside0.mk (below_step HB5.out hb)
          have n1_:=Aside0.mk (Kd.R_below HU.out hb)
          have m0_:=Aside0.mk (Kd.R_lower hop HB5.out.size)
          have m1_:=Aside0.mk (Kd.R_lower hoq HB5.out.size)
          clear HB5 HU
          have HB5:=n0_
          have HU:=n1_
          have HP:=m0_
          have HQ:=m1_
          clear n0_ n1_ m0_ m1_
          clear hop hoq hb
          refine hK.out _ _ (hS _ HB5.out) (fun hHeld => ?_)
          clear hK K
          refine norm_ (a':=_) ap_ ?_
          have hbs:=HB5.out.size
          refine one_ (i:=6) (N:=some 4) #[Tt,Tt,Tt,Tt,Tt,Tt,Tt,Ff] rfl rfl (one_of HT_.out (by kernel_rfl)) (by decide) (fun K hK => ?_)
          refine box_step ?hg (N:=4) ?hd (cs:=#[.int .i64 0,.int .i64 0,.slice none 0 0,.slice none 0 0]) (t:=26) ?hr ?_; (case hd => rfl); (case hg => rfl); (case hr => first | (go_simp; done) | (go_simp; rfl))
          intro b6 hg v9 hbox hb
          have GB6:Aside0 (W5.heap.size ≤ b6):=⟨by rw [hg]; exact hbs⟩
          clear hg hbs
          have n0_:=Aside0.mk (below_step HB5.out hb)
          have n1_:=Aside0.mk (Kd.R_below HU.out hb)
          have n2_:=Aside0.mk (Kd.R_below HP.out hb)
          have n3_:=Aside0.mk (Kd.R_below HQ.out hb)
          have m0_:=Aside0.mk (hbox)
          clear HB5 HU HP HQ
          have HB5:=n0_
          have HU:=n1_
          have HP:=n2_
          have HQ:=n3_
          have BK6:=m0_
          clear n0_ n1_ n2_ n3_ m0_
          clear hb hbox
          refine hK.out _ _ (hS _ HB5.out) (fun hHeld => ?_)
          clear hK K
          refine norm_ (a':=_) ap_ ?_
          exact norm_ (by simp only [putAll,Act.put,List.setIfInBounds_toArray,List.set_cons_zero,List.set_cons_succ]) (hCont (.slice (some adu) us.length cu,.pointer (some adu),vp,vq,b6) _ ⟨HB5.out,HP.out,HQ.out,BK6.out,GB6.out⟩)
         ·refine box_step ?hg (N:=4) ?hd (cs:=#[.int .i64 0,.int .i64 0,.slice none 0 0,.slice none 0 0]) (t:=26) ?hr ?_; (case hd => rfl); (case hg => rfl); (case hr => first | (go_simp; done) | (go_simp; rfl))
          intro b6 hg v8 hbox hb
          have GB6:Aside0 (W5.heap.size ≤ b6):=⟨by rw [hg]; exact hbs⟩
          clear hg hbs
          have n0_:=Aside0.mk (below_step HB5.out hb)
          have n1_:=Aside0.mk (Kd.R_below HU.out hb)
          have m0_:=Aside0.mk (hbox)
          clear HB5 HU
          have HB5:=n0_
          have HU:=n1_
          have BK6:=m0_
          clear n0_ n1_ m0_
          clear hb hbox
          refine hK.out _ _ (hS _ HB5.out) (fun hHeld => ?_)
          clear hK K
          refine norm_ (a':=_) ap_ ?_
          refine one_ (i:=5) (N:=some 13) #[Tt,Tt,Tt,Tt,Tt,Tt,Tt,Ff] rfl rfl (one_of HT_.out (by kernel_rfl)) (by decide) (fun K hK => ?_)
          refine goes_ Tryd.func93 (by kernel_rfl) rfl #[.agg #[.int .i64 a,.int .i64 b,.slice A2 l2.length c2,.slice A3 l3.length c3],.agg #[.int .i64 u0.f0,.int .i64 u0.f1]] (by rfl) rfl rfl (by (try simp only [List.map_toArray,List.map_cons,List.map_nil]); first | done | rfl) ?_
          with_reducible refine (spec_liPart.calls k1 a b A2 c2 l2 A3 c3 l3 u0.f0 u0.f1 p1 p2 p3 p4 _ (FigC.read (FigC.below F2.out HB5.out) (below_step HB.out HB5.out)) (FigC.len F2.out) (FigC.read (FigC.below F3.out HB5.out) (below_step HB.out HB5.out)) (FigC.len F3.out) AP.out).mono ?_
          rintro e v9 ⟨vp,vq,rfl,hop,hoq,hb⟩
          refine ⟨_,rfl,?_⟩
          have n0_:=Aside0.mk (below_step HB5.out hb)
          have n1_:=Aside0.mk (Kd.R_below HU.out hb)
          have n2_:=Aside0.mk (blk_below BK6.out hb)
          have m0_:=Aside0.mk (Kd.R_lower hop HB5.out.size)
          have m1_:=Aside0.mk (Kd.R_lower hoq HB5.out.size)
          clear HB5 HU BK6
          have HB5:=n0_
          have HU:=n1_
          have BK6:=n2_
          have HP:=m0_
          have HQ:=m1_
          clear n0_ n1_ n2_ m0_ m1_
          clear hop hoq hb
          refine hK.out _ _ (hS _ HB5.out) (fun hHeld => ?_)
          clear hK K
          refine norm_ (a':=_) ap_ ?_
          exact norm_ (by simp only [putAll,Act.put,List.setIfInBounds_toArray,List.set_cons_zero,List.set_cons_succ]) (hCont (.slice (some adu) us.length cu,.pointer (some adu),vp,vq,b6) _ ⟨HB5.out,HP.out,HQ.out,BK6.out,GB6.out⟩)
        ·refine box_step ?hg (N:=4) ?hd (cs:=#[.int .i64 0,.int .i64 0,.slice none 0 0,.slice none 0 0]) (t:=26) ?hr ?_; (case hd => rfl); (case hg => rfl); (case hr => first | (go_simp; done) | (go_simp; rfl))
         intro b6 hg v7 hbox hb
         have GB6:Aside0 (W5.heap.size ≤ b6):=⟨by rw [hg]; exact hbs⟩
         clear hg hbs
         have n0_:=Aside0.mk (below_step HB5.out hb)
         have n1_:=Aside0.mk (Kd.R_below HU.out hb)
         have m0_:=Aside0.mk (hbox)
         clear HB5 HU
         have HB5:=n0_
         have HU:=n1_
         have BK6:=m0_
         clear n0_ n1_ m0_
         clear hb hbox
         refine hK.out _ _ (hS _ HB5.out) (fun hHeld => ?_)
         clear hK K
         refine norm_ (a':=_) ap_ ?_
         refine one_ (i:=4) (N:=some 12) #[Tt,Tt,Tt,Tt,Tt,Ff,Tt,Ff] rfl rfl (one_of HT_.out (by kernel_rfl)) (by decide) (fun K hK => ?_)
         obtain ⟨adx,hea,hxa,hya⟩:=at_T103 (Kd.R_reads' HU.out).2.2 0 (by omega) HUL.out
         cases hea
         rw [HU0.out,addr0] at hxa hya
         refine value_ (w1:=?_) (v:=.agg #[.int .i64 u0.f0,.int .i64 u0.f1]) (by rfl) rfl ?_ ?_
         rotate_left
         ·go_simp
          first | rfl | (constructor <;> rfl)
         clear hxa hya
         refine hK.out _ _ (hS _ HB5.out) (fun hHeld => ?_)
         clear hK K
         refine norm_ (a':=_) ap_ ?_
         refine one_ (i:=5) (N:=some 13) #[Tt,Tt,Tt,Tt,Tt,Tt,Tt,Ff] rfl rfl (one_of HT_.out (by kernel_rfl)) (by decide) (fun K hK => ?_)
         refine goes_ Tryd.func93 (by kernel_rfl) rfl #[.agg #[.int .i64 a,.int .i64 b,.slice A2 l2.length c2,.slice A3 l3.length c3],.agg #[.int .i64 u0.f0,.int .i64 u0.f1]] (by rfl) rfl rfl (by (try simp only [List.map_toArray,List.map_cons,List.map_nil]); first | done | rfl) ?_
         with_reducible refine (spec_liPart.calls k1 a b A2 c2 l2 A3 c3 l3 u0.f0 u0.f1 p1 p2 p3 p4 _ (FigC.read (FigC.below F2.out HB5.out) (below_step HB.out HB5.out)) (FigC.len F2.out) (FigC.read (FigC.below F3.out HB5.out) (below_step HB.out HB5.out)) (FigC.len F3.out) AP.out).mono ?_
         rintro e v9 ⟨vp,vq,rfl,hop,hoq,hb⟩
         refine ⟨_,rfl,?_⟩
         have n0_:=Aside0.mk (below_step HB5.out hb)
         have n1_:=Aside0.mk (Kd.R_below HU.out hb)
         have n2_:=Aside0.mk (blk_below BK6.out hb)
         have m0_:=Aside0.mk (Kd.R_lower hop HB5.out.size)
         have m1_:=Aside0.mk (Kd.R_lower hoq HB5.out.size)
         clear HB5 HU BK6
         have HB5:=n0_
         have HU:=n1_
         have BK6:=n2_
         have HP:=m0_
         have HQ:=m1_
         clear n0_ n1_ n2_ m0_ m1_
         clear hop hoq hb
         refine hK.out _ _ (hS _ HB5.out) (fun hHeld => ?_)
         clear hK K
         refine norm_ (a':=_) ap_ ?_
         exact norm_ (by simp only [putAll,Act.put,List.setIfInBounds_toArray,List.set_cons_zero,List.set_cons_succ]) (hCont (.slice (some adu) us.length cu,.pointer (some adu),vp,vq,b6) _ ⟨HB5.out,HP.out,HQ.out,BK6.out,GB6.out⟩)
       ·refine box_step ?hg (N:=4) ?hd (cs:=#[.int .i64 0,.int .i64 0,.slice none 0 0,.slice none 0 0]) (t:=26) ?hr ?_; (case hd => rfl); (case hg => rfl); (case hr => first | (go_simp; done) | (go_simp; rfl))
        intro b6 hg v6 hbox hb
        have GB6:Aside0 (W5.heap.size ≤ b6):=⟨by rw [hg]; exact hbs⟩
        clear hg hbs
        have n0_:=Aside0.mk (below_step HB5.out hb)
        have m0_:=Aside0.mk (hbox)
        clear HB5
        have HB5:=n0_
        have BK6:=m0_
        clear n0_ m0_
        clear hb hbox
        refine hK.out _ _ (hS _ HB5.out) (fun hHeld => ?_)
        clear hK K
        refine norm_ (a':=_) ap_ ?_
        refine one_ (i:=2) (N:=some 10) #[Tt,Tt,Tt,Ff,Ff,Ff,Tt,Ff] rfl rfl (one_of HT_.out (by kernel_rfl)) (by decide) (fun K hK => ?_)
        refine goes_ Tryd.func94 (by kernel_rfl) rfl #[.agg #[.int .i64 a,.int .i64 b,.slice A2 l2.length c2,.slice A3 l3.length c3]] (by rfl) rfl rfl (by (try simp only [List.map_toArray,List.map_cons,List.map_nil]); first | done | rfl) ?_
        with_reducible refine (spec_liUsed.calls k1 a b A2 c2 l2 A3 c3 l3 us _ (FigC.read (FigC.below F2.out HB5.out) (below_step HB.out HB5.out)) (FigC.len F2.out) (FigC.read (FigC.below F3.out HB5.out) (below_step HB.out HB5.out)) (FigC.len F3.out) AU.out).mono ?_
        rintro e v7 ⟨vu,rfl,hou,hb⟩
        refine ⟨_,rfl,?_⟩
        have n0_:=Aside0.mk (below_step HB5.out hb)
        have n1_:=Aside0.mk (blk_below BK6.out hb)
        have m0_:=Aside0.mk (Kd.R_lower hou HB5.out.size)
        clear HB5 BK6
        have HB5:=n0_
        have BK6:=n1_
        have HU:=m0_
        clear n0_ n1_ m0_
        clear hou hb
        obtain ⟨Au,cu,rfl⟩:=Kd.R_slice HU.out
        obtain ⟨adu,hea,hxa,hya⟩:=at_T103 (Kd.R_reads' HU.out).2.2 0 (by omega) HUL.out
        subst hea
        clear hxa hya
        refine hK.out _ _ (hS _ HB5.out) (fun hHeld => ?_)
        clear hK K
        refine norm_ (a':=_) ap_ ?_
        refine pZ (i:=3) (N:=some 11) #[Tt,Tt,Tt,Tt,Ff,Ff,Tt,Ff] ?_
        refine one_ (i:=4) (N:=some 12) #[Tt,Tt,Tt,Tt,Tt,Ff,Tt,Ff] rfl rfl (one_of HT_.out (by kernel_rfl)) (by decide) (fun K hK => ?_)
        obtain ⟨adx,hea,hxa,hya⟩:=at_T103 (Kd.R_reads' HU.out).2.2 0 (by omega) HUL.out
        cases hea
        rw [HU0.out,addr0] at hxa hya
        refine value_ (w1:=?_) (v:=.agg #[.int .i64 u0.f0,.int .i64 u0.f1]) (by rfl) rfl ?_ ?_
        rotate_left
        ·go_simp
         first | rfl | (constructor <;> rfl)
        clear hxa hya
        refine hK.out _ _ (hS _ HB5.out) (fun hHeld => ?_)
        clear hK K
        refine norm_ (a':=_) ap_ ?_
        refine one_ (i:=5) (N:=some 13) #[Tt,Tt,Tt,Tt,Tt,Tt,Tt,Ff] rfl rfl (one_of HT_.out (by kernel_rfl)) (by decide) (fun K hK => ?_)
        refine goes_ Tryd.func93 (by kernel_rfl) rfl #[.agg #[.int .i64 a,.int .i64 b,.slice A2 l2.length c2,.slice A3 l3.length c3],.agg #[.int .i64 u0.f0,.int .i64 u0.f1]] (by rfl) rfl rfl (by (try simp only [List.map_toArray,List.map_cons,List.map_nil]); first | done | rfl) ?_
        with_reducible refine (spec_liPart.calls k1 a b A2 c2 l2 A3 c3 l3 u0.f0 u0.f1 p1 p2 p3 p4 _ (FigC.read (FigC.below F2.out HB5.out) (below_step HB.out HB5.out)) (FigC.len F2.out) (FigC.read (FigC.below F3.out HB5.out) (below_step HB.out HB5.out)) (FigC.len F3.out) AP.out).mono ?_
        rintro e v9 ⟨vp,vq,rfl,hop,hoq,hb⟩
        refine ⟨_,rfl,?_⟩
        have n0_:=Aside0.mk (below_step HB5.out hb)
        have n1_:=Aside0.mk (blk_below BK6.out hb)
        have n2_:=Aside0.mk (Kd.R_below HU.out hb)
        have m0_:=Aside0.mk (Kd.R_lower hop HB5.out.size)
        have m1_:=Aside0.mk (Kd.R_lower hoq HB5.out.size)
        clear HB5 BK6 HU
        have HB5:=n0_
        have BK6:=n1_
        have HU:=n2_
        have HP:=m0_
        have HQ:=m1_
        clear n0_ n1_ n2_ m0_ m1_
        clear hop hoq hb
        refine hK.out _ _ (hS _ HB5.out) (fun hHeld => ?_)
        clear hK K
        refine norm_ (a':=_) ap_ ?_
        exact norm_ (by simp only [putAll,Act.put,List.setIfInBounds_toArray,List.set_cons_zero,List.set_cons_succ]) (hCont (.slice (some adu) us.length cu,.pointer (some adu),vp,vq,b6) _ ⟨HB5.out,HP.out,HQ.out,BK6.out,GB6.out⟩)
      rintro ⟨v10,v11,vp,vq,b6⟩ w8 ⟨hb8,hP8,hQ8,h68,hG8⟩
      have hHeld:=hS w8 hb8
      refine norm_ (a':=?_) ?_ ?_
      rotate_left
      ·simp only [putAll,Act.put,List.setIfInBounds_toArray,List.set_cons_zero,List.set_cons_succ]
       rfl
      have GB6:Aside0 (W5.heap.size ≤ b6):=⟨hG8⟩
      obtain ⟨Ap,cp,rfl⟩:=Kd.R_slice hP8
      obtain ⟨Aq,cq,rfl⟩:=Kd.R_slice hQ8
      have hs0:w8.cell? ⟨b6,0,none⟩ = some (.int .i64 0):=(blk_cell h68 0).trans rfl
      have hs1:w8.cell? ⟨b6,1,none⟩ = some (.int .i64 0):=(blk_cell h68 1).trans rfl
      have hs2:w8.cell? ⟨b6,2,none⟩ = some (.slice none 0 0):=(blk_cell h68 2).trans rfl
      have hs3:w8.cell? ⟨b6,3,none⟩ = some (.slice none 0 0):=(blk_cell h68 3).trans rfl
      have hf0:=blk_frozen h68 0
      have hf1:=blk_frozen h68 1
      have hf2:=blk_frozen h68 2
      have hf3:=blk_frozen h68 3
      refine one_ (i:=7) (N:=none) #[Tt,Tt,Tt,Tt,Tt,Tt,Tt,Tt] rfl rfl (one_of HT_.out (by kernel_rfl)) (by decide) (fun K hK => ?_)
      refine skip_ (w1:=?_) (by rfl) rfl ?_ ?_
      rotate_left
      ·go_simp
       rfl
      refine hK.out _ _ (hS _ (below_set (below_set (below_set (below_set hb8 hG8) hG8) hG8) hG8)) (fun hHeld => ?_)
      clear hK K
      refine done_ (done_of HT_.out (by kernel_rfl)) ?_
      have hb9:=below_set (j:=3) (v:=.slice Aq p4.length cq) (below_set (j:=2) (v:=.slice Ap p3.length cp) (below_set (j:=1) (v:=.int .i64 p2) (below_set (j:=0) (v:=.int .i64 p1) hb8 hG8) hG8) hG8) hG8
      have K6:=blk_put (cs:=#[.int .i64 p1,.int .i64 p2,.slice Ap p3.length cp,.slice none 0 0]) (blk_put (cs:=#[.int .i64 p1,.int .i64 p2,.slice none 0 0,.slice none 0 0]) (blk_put (cs:=#[.int .i64 p1,.int .i64 0,.slice none 0 0,.slice none 0 0]) (blk_put (cs:=#[.int .i64 0,.int .i64 0,.slice none 0 0,.slice none 0 0]) h68 0 (.int .i64 p1) rfl) 1 (.int .i64 p2) rfl) 2 (.slice Ap p3.length cp) rfl) 3 (.slice Aq p4.length cq) rfl
      have HP9:=Kd.R_far (Kd.R_far (Kd.R_far (Kd.R_far (p:=⟨b6,0,none⟩) (Kd.R_types hP8 h68 (by decide)) (fun k hk => hk.2) (.int .i64 p1)) (p:=⟨b6,1,none⟩) (fun k hk => hk.2) (.int .i64 p2)) (p:=⟨b6,2,none⟩) (fun k hk => hk.2) (.slice Ap p3.length cp)) (p:=⟨b6,3,none⟩) (fun k hk => hk.2) (.slice Aq p4.length cq)
      have HQ9:=Kd.R_far (Kd.R_far (Kd.R_far (Kd.R_far (p:=⟨b6,0,none⟩) (Kd.R_types hQ8 h68 (by decide)) (fun k hk => hk.2) (.int .i64 p1)) (p:=⟨b6,1,none⟩) (fun k hk => hk.2) (.int .i64 p2)) (p:=⟨b6,2,none⟩) (fun k hk => hk.2) (.slice Ap p3.length cp)) (p:=⟨b6,3,none⟩) (fun k hk => hk.2) (.slice Aq p4.length cq)
      generalize hW9:(((w8.setCell ⟨b6,0,none⟩ (.int .i64 p1)).setCell ⟨b6,1,none⟩ (.int .i64 p2)).setCell ⟨b6,2,none⟩ (.slice Ap p3.length cp)).setCell ⟨b6,3,none⟩ (.slice Aq p4.length cq) = W9 at hb9 K6 HP9 HQ9 ⊢
      have HSZ:Aside0 (w.heap.size ≤ W5.heap.size):=⟨HB.out.size⟩
      have HO9:=Aside0.mk (Kd.S_old HO.out hb9)
      have BK9:=Aside0.mk (blk_below BK.out hb9)
      have F29:=Aside0.mk (FigC.below F2.out hb9)
      have F39:=Aside0.mk (FigC.below F3.out hb9)
      have HB9:=Aside0.mk (below_step HB.out hb9)
      have K6:=Aside0.mk K6
      have BP:=Aside0.mk (Kd.R_base HP9)
      have BQ:=Aside0.mk (Kd.R_base HQ9)
      have HP9:=Aside0.mk (Kd.R_lower HP9 HSZ.out)
      have HQ9:=Aside0.mk (Kd.R_lower HQ9 HSZ.out)
      have hd0:W9.cell? ⟨b6,0,none⟩ = some (.int .i64 p1):=(blk_cell K6.out 0).trans rfl
      have hd1:W9.cell? ⟨b6,1,none⟩ = some (.int .i64 p2):=(blk_cell K6.out 1).trans rfl
      have hd2:W9.cell? ⟨b6,2,none⟩ = some (.slice Ap p3.length cp):=(blk_cell K6.out 2).trans rfl
      have hd3:W9.cell? ⟨b6,3,none⟩ = some (.slice Aq p4.length cq):=(blk_cell K6.out 3).trans rfl
      clear hs0 hs1 hs2 hs3 hf0 hf1 hf2 hf3 hb8 hP8 hQ8 h68 hG8 hW9 hHeld HT_ HW_ hS HB5 HO BK F2 F3 HB hb9 hulT hulN
      go_wp2_with (first
       | (at_builtin; refine Kd.S_append k26 (w0:=w) w.heap.size rfl (.tmp 14) (.tmp 16) 39 26 (.agg #[(.int .i64 0),(.int .i64 0),(.slice none 0 0),(.slice none 0 0)]) 64 rfl Tryd.underlying39 info26 rfl (by decide) (by omega) u3 out (⟨p1,p2,p3,p4⟩:S26) [.int .i64 p1,.int .i64 p2,.slice Ap p3.length cp,.slice Aq p4.length cq] (fun k_ => k_ ≠ gb) (fun k_ => some k_ = (.slice Ap p3.length cp:Value).ownBlock ∨ some k_ = (.slice Aq p4.length cq:Value).ownBlock) rfl rfl ?aP ?aK ?aF ?aO ?aB ?aS ?aL ?_; (case aP => exact k26_mkM _ _ _ (⟨p1,p2,p3,p4⟩:S26) (Kd.R_mono (Kd.R_tight rfl HP9.out) (fun _ h_ => Or.inl h_)) (Kd.R_mono (Kd.R_tight rfl HQ9.out) (fun _ h_ => Or.inr h_))); (case aK => exact fun k_ hk_ => have hge:W5.heap.size ≤ k_:=hk_.elim (fun h => BP.out k_ h.symm) (fun h => BQ.out k_ h.symm); ⟨by have:=HGB.out; omega,fun e_ => by have:=HLT.out k_ e_.symm; omega⟩); (case aF => exact fun k_ hk => Kd.freshB BK9.out k_ hk); (case aO => exact Kd.S_mono HO9.out (fun k hk => ⟨hk.1,fun e_ => by have hge:W5.heap.size ≤ k:=e_.elim (fun h => BP.out k h.symm) (fun h => BQ.out k h.symm); have:=hk.2; omega⟩)); (case aB => exact HB9.out); (case aS => exact HB9.out.size); (case aL => have:=LM.out; omega); intro v9 w10 ho hb hg hat; have n0_:=Aside0.mk (blk_grown BK9.out hg (Kd.S_away HO9.out (fun _ hk => hk.1))); have n1_:=Aside0.mk (FigC.over F29.out (Kd.S_typed HO9.out) (by decide) hg); have n2_:=Aside0.mk (FigC.over F39.out (Kd.S_typed HO9.out) (by decide) hg); have n3_:=Aside0.mk (blk_grown K6.out hg (fun e_ => by have:=HLT.out b6 e_.symm; have:=GB6.out; omega)); have n4_:=Aside0.mk (Kd.R_over' HP9.out (Kd.S_typed HO9.out) (by decide) hg); have n5_:=Aside0.mk (Kd.R_over' HQ9.out (Kd.S_typed HO9.out) (by decide) hg); have HOA:=Aside0.mk ho; have HBA:=Aside0.mk hb; clear HO9 BK9 F29 F39 HB9 K6 HP9 HQ9 hd0 hd1 hd2 hd3 ho hb hg hat BP BQ; have BK:=n0_; have F2:=n1_; have F3:=n2_; have K6:=n3_; have HP9:=n4_; have HQ9:=n5_; clear n0_ n1_ n2_ n3_ n4_ n5_; have hd0:w10.cell? ⟨b6,0,none⟩ = some (.int .i64 p1):=(blk_cell K6.out 0).trans rfl; have hd1:w10.cell? ⟨b6,1,none⟩ = some (.int .i64 p2):=(blk_cell K6.out 1).trans rfl; have hd2:w10.cell? ⟨b6,2,none⟩ = some (.slice Ap p3.length cp):=(blk_cell K6.out 2).trans rfl; have hd3:w10.cell? ⟨b6,3,none⟩ = some (.slice Aq p4.length cq):=(blk_cell K6.out 3).trans rfl; have hcz0:w10.cell? ⟨gb,0,none⟩ = some (.int .i64 a):=(blk_cell BK.out 0).trans rfl; have hcz1:w10.cell? ⟨gb,1,none⟩ = some (.int .i64 b):=(blk_cell BK.out 1).trans rfl; have hcz2:w10.cell? ⟨gb,2,none⟩ = some (.slice A2 l2.length c2):=(blk_cell BK.out 2).trans rfl; have hcz3:w10.cell? ⟨gb,3,none⟩ = some (.slice A3 l3.length c3):=(blk_cell BK.out 3).trans rfl)
       | (go_at_call 36; refine (spec_fiLess.calls k1 a b A2 c2 l2 A3 c3 l3 p1 p2 Ap cp p3 Aq cq p4 g1 g2 g3 g4 _ (FigC.read F2.out HBA.out) (FigC.len F2.out) (FigC.read F3.out HBA.out) (FigC.len F3.out) (Kd.R_reads' HP9.out).2.2 (Kd.R_reads' HP9.out).2.1 (Kd.R_reads' HQ9.out).2.2 (Kd.R_reads' HQ9.out).2.1 AL.out).mono ?_; rintro e w11 ⟨x2,x3,rfl,hx2,hx3,hb⟩; obtain ⟨A2n,c2n,rfl⟩:=Kd.R_slice hx2; obtain ⟨A3n,c3n,rfl⟩:=Kd.R_slice hx3; have n0_:=Aside0.mk (blk_below BK.out hb); have n1_:=Aside0.mk (Kd.S_below HOA.out hb); have HSY:Aside0 (w.heap.size ≤ w10.heap.size):=⟨HBA.out.size⟩; have HGY:Aside0 (gb < w10.heap.size):=⟨blk_lt BK.out⟩; have n2_:Aside0 (FigC w w11 gb A2n c2n g3):=⟨⟨(Kd.R_reads' hx2).2.1,.inr (Kd.R_lower (Kd.R_mono (Kd.R_bound hx2) (fun k hk => by have h1:=hk.2.1; have:=HGY.out; omega)) HSY.out)⟩⟩; have n3_:Aside0 (FigC w w11 gb A3n c3n g4):=⟨⟨(Kd.R_reads' hx3).2.1,.inr (Kd.R_lower (Kd.R_mono (Kd.R_bound hx3) (fun k hk => by have h1:=hk.2.1; have:=HGY.out; omega)) HSY.out)⟩⟩; have n4_:=Aside0.mk (below_step HBA.out hb); clear BK HOA F2 F3 HBA hcz0 hcz1 hcz2 hcz3 hd0 hd1 hd2 hd3 hb hx2 hx3 HP9 HQ9 K6 HSY HGY; have BK:=n0_; have HO:=n1_; have F2:=n2_; have F3:=n3_; have HB:=n4_; clear n0_ n1_ n2_ n3_ n4_; have hcz0:w11.cell? ⟨gb,0,none⟩ = some (.int .i64 a):=(blk_cell BK.out 0).trans rfl; have hcz1:w11.cell? ⟨gb,1,none⟩ = some (.int .i64 b):=(blk_cell BK.out 1).trans rfl; have hcz2:w11.cell? ⟨gb,2,none⟩ = some (.slice A2 l2.length c2):=(blk_cell BK.out 2).trans rfl; have hcz3:w11.cell? ⟨gb,3,none⟩ = some (.slice A3 l3.length c3):=(blk_cell BK.out 3).trans rfl; have hfz0:=blk_frozen BK.out 0; have hfz1:=blk_frozen BK.out 1; have hfz2:=blk_frozen BK.out 2; have hfz3:=blk_frozen BK.out 3))
      go_roundg k1
      case measure => have:=HK1.out; omega
      case rel => exact ⟨g1,g2,A2n,c2n,g3,A3n,c3n,g4,out ++ [⟨p1,p2,p3,p4⟩],HN,⟨by have:=HK1.out; omega⟩,⟨Kd.S_far (Kd.S_far (Kd.S_far (Kd.S_far HO.out (fun k hk => hk) _) (fun k hk => hk) _) (fun k hk => hk) _) (fun k hk => hk) _⟩,⟨blk_put (cs:=#[.int .i64 g1,.int .i64 g2,.slice A2n g3.length c2n,.slice A3 l3.length c3]) (blk_put (cs:=#[.int .i64 g1,.int .i64 g2,.slice A2 l2.length c2,.slice A3 l3.length c3]) (blk_put (cs:=#[.int .i64 g1,.int .i64 b,.slice A2 l2.length c2,.slice A3 l3.length c3]) (blk_put (cs:=#[.int .i64 a,.int .i64 b,.slice A2 l2.length c2,.slice A3 l3.length c3]) BK.out 0 _ rfl) 1 _ rfl) 2 _ rfl) 3 _ rfl⟩,⟨FigC.far (FigC.far (FigC.far (FigC.far F2.out _ _) _ _) _ _) _ _⟩,⟨FigC.far (FigC.far (FigC.far (FigC.far F3.out _ _) _ _) _ _) _ _⟩,⟨below_set (below_set (below_set (below_set HB.out GE.out) GE.out) GE.out) GE.out⟩⟩
     ·rw [if_neg hol] at H
      exact absurd H (by simp)
    ·rw [if_neg hul] at H
     exact absurd H (by simp)
   ·rw [if_neg hpos] at H
    obtain rfl:=Option.some.inj H
    have hd:decide ((0:Int) < n) = false:=decide_eq_false hpos
    clear hpos
    go_wp2_with (go_at_call 92; refine (spec_fiCount.calls a b A2 c2 l2 A3 c3 l3 n _ (FigC.read F2.out HB.out) (FigC.len F2.out) (FigC.read F3.out HB.out) (FigC.len F3.out) AN.out).mono ?_; rintro e w1 ⟨rfl,hb⟩; have HO1:=Aside0.mk (Kd.S_below HO.out hb); have HB1:=Aside0.mk (below_step HB.out hb); clear hcz0 hcz1 hcz2 hcz3 hb)
    go_ret
    exact ⟨_,rfl,Kd.S_mono HO1.out (fun _ _ => trivial),HB1.out⟩


def spec_PartsOfFigure.f (k:Nat) (a0_0:Int) (a0_1:Int) (l0_2:List Int) (l0_3:List Int):Option ((List (S26)) × Bool):=(spec_fiGood.f k a0_0 a0_1 l0_2 l0_3).bind fun t732 => (if t732 = true then ((spec_liParts.f k a0_0 a0_1 l0_2 l0_3).bind fun t733 => (some (t733,true))) else (some (([]:List (S26)),false)))
theorem spec_PartsOfFigure.mono:∀ a0 a1 a2 a3 k,LeO (spec_PartsOfFigure.f k a0 a1 a2 a3) (spec_PartsOfFigure.f (k + 1) a0 a1 a2 a3):=by
 intro a0 a1 a2 a3 k
 unfold spec_PartsOfFigure.f
 repeat' first
   | (with_reducible exact spec_fiGood.mono _ _ _ _ _)
   | (with_reducible exact spec_liParts.mono _ _ _ _ _)
   | (with_reducible exact LeO.refl _)
   | (with_reducible exact LeO.none _)
   | (with_reducible refine LeO.ite ?_ ?_)
   | (with_reducible refine LeO.bind ?_ (fun _ => ?_))
   | exact spec_fiGood.mono _ _ _ _ _
   | exact spec_liParts.mono _ _ _ _ _
   | exact LeO.none _
   | refine LeO.ite ?_ ?_
   | refine LeO.bind ?_ (fun _ => ?_)
set_option maxHeartbeats 8000000 in
set_option maxRecDepth 100000 in
theorem spec_PartsOfFigure.calls (k:Nat) (a0_0:Int) (a0_1:Int) (A0_2:Option Addr) (c0_2:Nat) (l0_2:List Int) (A0_3:Option Addr) (c0_3:Nat) (l0_3:List Int) (r1:List (S26)) (r2:Bool) (w:World) (hr0_2:Kd.C (Kd.int .i64) w A0_2 l0_2.length l0_2) (hc0_2:l0_2.length ≤ c0_2) (hr0_3:Kd.C (Kd.int .i64) w A0_3 l0_3.length l0_3) (hc0_3:l0_3.length ≤ c0_3) (h:spec_PartsOfFigure.f k a0_0 a0_1 l0_2 l0_3 = some (r1,r2)) :
  Calls Tryd.prog 28 #[.agg #[.int .i64 a0_0,.int .i64 a0_1,.slice A0_2 l0_2.length c0_2,.slice A0_3 l0_3.length c0_3]] w fun e w' => ∃ v0_:Value,e = .returned (.tuple #[v0_,.bool r2]) ∧ Kd.S k26 26 w' w.heap.size (fun _ => True) v0_ r1 ∧ Below w.heap.size w w':=by
 have hu26:=Tryd.underlying26
 have HR0_2:=Aside0.mk hr0_2
 have HC0_2:=Aside0.mk hc0_2
 clear hr0_2 hc0_2
 have HR0_3:=Aside0.mk hr0_3
 have HC0_3:=Aside0.mk hc0_3
 clear hr0_3 hc0_3
 have HB:=Aside0.mk (Below.refl w.heap.size w)
 have H:((spec_fiGood.f k a0_0 a0_1 l0_2 l0_3).bind fun t732 => (if t732 = true then ((spec_liParts.f k a0_0 a0_1 l0_2 l0_3).bind fun t733 => (some (t733,true))) else (some (([]:List (S26)),false)))) = some (r1,r2):=h
 clear h
 replace H:=Option.bind_eq_some_iff.mp H
 obtain ⟨t732,A20,H⟩:=H
 replace H:(if t732 = true then ((spec_liParts.f k a0_0 a0_1 l0_2 l0_3).bind fun t733 => (some (t733,true))) else (some (([]:List (S26)),false))) = some (r1,r2):=H
 have A2:=Aside0.mk A20
 clear A20
 by_cases c3:t732 = true
 ·subst c3
  have H1:((spec_liParts.f k a0_0 a0_1 l0_2 l0_3).bind fun t733 => (some (t733,true))) = some (r1,r2):=by rw [if_pos rfl] at H; exact H
  clear H
  have H:=H1
  clear H1
  replace H:=Option.bind_eq_some_iff.mp H
  obtain ⟨t733,A40,H⟩:=H
  replace H:(some (t733,true)) = some (r1,r2):=H
  have A4:=Aside0.mk A40
  clear A40
  simp only [Option.some.injEq,Prod.mk.injEq] at H
  obtain ⟨rfl,rfl⟩:=H
  go_enter Tryd.func28,Tryd.ntmps28
  go_wp2_with (first | ((with_reducible refine gate_dst (N:=1) rfl ?_); refine boxE_ (N:=1) (cs:=#[.int .i64 a0_0,.int .i64 a0_1,.slice A0_2 l0_2.length c0_2,.slice A0_3 l0_3.length c0_3]) (t:=26) ?_; intro gb731 hg w5 hbox hb; have n0_:=Aside0.mk (below_step (bl0_ HB.out) hb); have n1_:=Aside0.mk (hbox); have n2_:=Aside0.mk ((bs0_ hg HB.out:w.heap.size ≤ gb731)); have n3_:=Aside0.mk ((bs0_ hg HB.out:w.heap.size ≤ gb731)); clear HB; have HB:=n0_; have BK731:=n1_; have GW731:=n2_; have GE731:=n3_; clear n0_ n1_ n2_ n3_; clear hb hbox hg; have hcz6_0:w5.cell? ⟨gb731,0,none⟩ = some (.int .i64 a0_0):=(blk_cell BK731.out 0).trans rfl; have hcz6_1:w5.cell? ⟨gb731,1,none⟩ = some (.int .i64 a0_1):=(blk_cell BK731.out 1).trans rfl; have hcz6_2:w5.cell? ⟨gb731,2,none⟩ = some (.slice A0_2 l0_2.length c0_2):=(blk_cell BK731.out 2).trans rfl; have hcz6_3:w5.cell? ⟨gb731,3,none⟩ = some (.slice A0_3 l0_3.length c0_3):=(blk_cell BK731.out 3).trans rfl; have hfz6_0:=blk_frozen BK731.out 0; have hfz6_1:=blk_frozen BK731.out 1; have hfz6_2:=blk_frozen BK731.out 2; have hfz6_3:=blk_frozen BK731.out 3) | ((with_reducible refine gate_callee (f:=54) rfl ?_); refine goesL_ (some 5) rfl rfl Tryd.func54 (by kernel_rfl) rfl #[.agg #[.int .i64 a0_0,.int .i64 a0_1,.slice A0_2 l0_2.length c0_2,.slice A0_3 l0_3.length c0_3]] rfl ob_ ?_; (with_reducible refine (spec_fiGood.calls k a0_0 a0_1 _ _ l0_2 _ _ l0_3 true _ ?side1 ?side2 ?side3 ?side4 A2.out).mono ?_); (case side1 => exact kc_ (Kd.C_below HR0_2.out HB.out)); (case side2 => exact HC0_2.out); (case side3 => exact kc_ (Kd.C_below HR0_3.out HB.out)); (case side4 => exact HC0_3.out); rintro e w7 ⟨rfl,hb⟩; refine ⟨_,rfl,?_⟩; have n0_:=Aside0.mk (bb_ BK731.out hb); have n1_:=Aside0.mk (below_step (bl1_ HB.out GE731.out) hb); clear BK731; clear HB; have BK731:=n0_; have HB:=n1_; clear n0_ n1_; (try clear hb); (try clear hb2); (try clear hk); (try clear hi); have hcz8_0:w7.cell? ⟨gb731,0,none⟩ = some (.int .i64 a0_0):=(blk_cell BK731.out 0).trans rfl; have hcz8_1:w7.cell? ⟨gb731,1,none⟩ = some (.int .i64 a0_1):=(blk_cell BK731.out 1).trans rfl; have hcz8_2:w7.cell? ⟨gb731,2,none⟩ = some (.slice A0_2 l0_2.length c0_2):=(blk_cell BK731.out 2).trans rfl; have hcz8_3:w7.cell? ⟨gb731,3,none⟩ = some (.slice A0_3 l0_3.length c0_3):=(blk_cell BK731.out 3).trans rfl; have hfz8_0:=blk_frozen BK731.out 0; have hfz8_1:=blk_frozen BK731.out 1; have hfz8_2:=blk_frozen BK731.out 2; have hfz8_3:=blk_frozen BK731.out 3) | ((with_reducible refine gate_callee (f:=65) rfl ?_); refine goesL_ (some 8) rfl rfl Tryd.func65 (by kernel_rfl) rfl #[.agg #[.int .i64 a0_0,.int .i64 a0_1,.slice A0_2 l0_2.length c0_2,.slice A0_3 l0_3.length c0_3]] rfl ob_ ?_; (with_reducible refine (spec_liParts.calls k a0_0 a0_1 _ _ l0_2 _ _ l0_3 t733 _ ?side1 ?side2 ?side3 ?side4 A4.out).mono ?_); (case side1 => exact kc_ (Kd.C_below HR0_2.out HB.out)); (case side2 => exact HC0_2.out); (case side3 => exact kc_ (Kd.C_below HR0_3.out HB.out)); (case side4 => exact HC0_3.out); rintro e w9 ⟨v734,rfl,ho0,hb⟩; refine ⟨_,rfl,?_⟩; have n0_:=Aside0.mk (Kd.S_lower (Kd.S_newB ho0 (g:=gb731) (o:=.cells #[.int .i64 a0_0,.int .i64 a0_1,.slice A0_2 l0_2.length c0_2,.slice A0_3 l0_3.length c0_3] 26 (0,0)) (bk_ BK731.out)) (below_size (bl1_ HB.out GE731.out))); have n1_:=Aside0.mk (bb_ BK731.out hb); have n2_:=Aside0.mk (below_step (bl1_ HB.out GE731.out) hb); clear BK731; clear HB; have HO735:=n0_; have BK731:=n1_; have HB:=n2_; clear n0_ n1_ n2_; (try clear hb); (try clear hb2); (try clear hk); (try clear hi); (try clear ho0)))
  go_ret2
  exact ⟨_,er_,by (with_reducible repeat (first | apply Kd.S_alloc | apply Kd.S_drewN | apply Kd.S_drew)); exact Kd.S_mono HO735.out (fun _ hk => trivial),bl1_ HB.out GE731.out⟩
 ·replace c3:=Bool.eq_false_iff.mpr c3
  subst c3
  have H1:(some (([]:List (S26)),false)) = some (r1,r2):=by rw [if_neg (show ¬ (false = true) by decide)] at H; exact H
  clear H
  have H:=H1
  clear H1
  simp only [Option.some.injEq,Prod.mk.injEq] at H
  obtain ⟨rfl,rfl⟩:=H
  go_enter Tryd.func28,Tryd.ntmps28
  go_wp2_with (first | ((with_reducible refine gate_dst (N:=1) rfl ?_); refine boxE_ (N:=1) (cs:=#[.int .i64 a0_0,.int .i64 a0_1,.slice A0_2 l0_2.length c0_2,.slice A0_3 l0_3.length c0_3]) (t:=26) ?_; intro gb731 hg w10 hbox hb; have n0_:=Aside0.mk (below_step (bl0_ HB.out) hb); have n1_:=Aside0.mk (hbox); have n2_:=Aside0.mk ((bs0_ hg HB.out:w.heap.size ≤ gb731)); have n3_:=Aside0.mk ((bs0_ hg HB.out:w.heap.size ≤ gb731)); clear HB; have HB:=n0_; have BK731:=n1_; have GW731:=n2_; have GE731:=n3_; clear n0_ n1_ n2_ n3_; clear hb hbox hg; have hcz11_0:w10.cell? ⟨gb731,0,none⟩ = some (.int .i64 a0_0):=(blk_cell BK731.out 0).trans rfl; have hcz11_1:w10.cell? ⟨gb731,1,none⟩ = some (.int .i64 a0_1):=(blk_cell BK731.out 1).trans rfl; have hcz11_2:w10.cell? ⟨gb731,2,none⟩ = some (.slice A0_2 l0_2.length c0_2):=(blk_cell BK731.out 2).trans rfl; have hcz11_3:w10.cell? ⟨gb731,3,none⟩ = some (.slice A0_3 l0_3.length c0_3):=(blk_cell BK731.out 3).trans rfl; have hfz11_0:=blk_frozen BK731.out 0; have hfz11_1:=blk_frozen BK731.out 1; have hfz11_2:=blk_frozen BK731.out 2; have hfz11_3:=blk_frozen BK731.out 3) | ((with_reducible refine gate_callee (f:=54) rfl ?_); refine goesL_ (some 5) rfl rfl Tryd.func54 (by kernel_rfl) rfl #[.agg #[.int .i64 a0_0,.int .i64 a0_1,.slice A0_2 l0_2.length c0_2,.slice A0_3 l0_3.length c0_3]] rfl ob_ ?_; (with_reducible refine (spec_fiGood.calls k a0_0 a0_1 _ _ l0_2 _ _ l0_3 false _ ?side1 ?side2 ?side3 ?side4 A2.out).mono ?_); (case side1 => exact kc_ (Kd.C_below HR0_2.out HB.out)); (case side2 => exact HC0_2.out); (case side3 => exact kc_ (Kd.C_below HR0_3.out HB.out)); (case side4 => exact HC0_3.out); rintro e w12 ⟨rfl,hb⟩; refine ⟨_,rfl,?_⟩; have n0_:=Aside0.mk (bb_ BK731.out hb); have n1_:=Aside0.mk (below_step (bl1_ HB.out GE731.out) hb); clear BK731; clear HB; have BK731:=n0_; have HB:=n1_; clear n0_ n1_; (try clear hb); (try clear hb2); (try clear hk); (try clear hi)))
  go_ret2
  exact ⟨_,er_,by first | exact Kd.S_nil _ _ _ _ _ | exact Kd.N_nil _ _ _ _ _ | exact Kd.V_nil _ _ _ _ _ | exact Kd.Q_nil _ _ _ _ _ | exact Kd.R_nil _ _ _ _ _,bl1_ HB.out GE731.out⟩


theorem up_rounds {α:Type} {f:Nat → Option α} (hm:∀ k,LeO (f k) (f (k + 1))) {k k':Nat} (h:k ≤ k') {r:α} (hr:f k = some r):f k' = some r:=by
  induction k' with
  | zero => obtain rfl:k = 0:=by omega
            exact hr
  | succ n ih =>
    by_cases e:k = n + 1
    · subst e; exact hr
    · exact hm n r (ih (by omega))
def risingB:List Int → Bool
  | a :: b :: t => decide (a < b) && risingB (b :: t)
  | _ => true
def inB (lo hi:Int) (l:List Int):Bool:=l.all fun x => decide (lo ≤ x) && decide (x ≤ hi)
theorem isRising_l0 (l:List Int) (hL:l.length ≤ 4000000):∀ (d k i:Nat),l.length - i = d → 1 ≤ i → i ≤ l.length → d < k → impl_isRising.l0 k l (i:Int) = some (risingB (l.drop (i - 1))):=by
  intro d
  induction d with
  | zero =>
    intro k i h1 h2 h3 h4
    obtain ⟨k,rfl⟩:∃ m,k = m + 1:=⟨k - 1,by omega⟩
    simp only [impl_isRising.l0]
    rw [if_neg (by omega),List.drop_eq_getElem_cons (by omega),List.drop_of_length_le (by omega)]
    rfl
  | succ d ih =>
    intro k i h1 h2 h3 h4
    obtain ⟨k,rfl⟩:∃ m,k = m + 1:=⟨k - 1,by omega⟩
    have e1:wrap64 ((i:Int) - 1) = ((i - 1:Nat):Int):=by unfold wrap64; omega
    have e2:wrap64 ((i:Int) + 1) = ((i + 1:Nat):Int):=by unfold wrap64; omega
    simp only [impl_isRising.l0]
    rw [if_pos (by omega),if_pos (by omega),e1,if_pos (by omega),if_pos (by omega),rd_nat l i (by omega),rd_nat l (i - 1) (by omega),e2,ih k (i + 1) (by omega) (by omega) (by omega) (by omega),
      List.drop_eq_getElem_cons (show i - 1 < l.length by omega),show i - 1 + 1 = i by omega,show i + 1 - 1 = i by omega,List.drop_eq_getElem_cons (show i < l.length by omega)]
    by_cases hlt:l[i] ≤ l[i - 1]
    · rw [if_pos hlt]
      simp only [risingB]
      rw [decide_eq_false (by omega)]
      rfl
    · rw [if_neg hlt]
      simp only [risingB]
      rw [decide_eq_true (by omega)]
      rfl
theorem isRising_f (l:List Int) (hL:l.length ≤ 4000000) (k:Nat) (hk:l.length + 1 < k):impl_isRising.f k l = some (risingB l):=by
  unfold impl_isRising.f
  by_cases h0:l.length = 0
  · have:l = []:=List.length_eq_zero_iff.1 h0
    subst this
    obtain ⟨k,rfl⟩:∃ m,k = m + 1:=⟨k - 1,by omega⟩
    simp only [impl_isRising.l0]
    rw [if_neg (by simp)]
    rfl
  · exact isRising_l0 l hL (l.length - 1) k 1 rfl (by omega) (by omega) (by omega)
theorem fiRises_l0 (l:List Int) (hL:l.length ≤ 4000000):∀ (d k i:Nat),l.length - i = d → 1 ≤ i → i ≤ l.length → d < k → spec_fiRises.l0 k l (i:Int) = some (risingB (l.drop (i - 1))):=by
  intro d
  induction d with
  | zero =>
    intro k i h1 h2 h3 h4
    obtain ⟨k,rfl⟩:∃ m,k = m + 1:=⟨k - 1,by omega⟩
    simp only [spec_fiRises.l0]
    rw [if_neg (by omega),List.drop_eq_getElem_cons (by omega),List.drop_of_length_le (by omega)]
    rfl
  | succ d ih =>
    intro k i h1 h2 h3 h4
    obtain ⟨k,rfl⟩:∃ m,k = m + 1:=⟨k - 1,by omega⟩
    have e1:wrap64 ((i:Int) - 1) = ((i - 1:Nat):Int):=by unfold wrap64; omega
    have e2:wrap64 ((i:Int) + 1) = ((i + 1:Nat):Int):=by unfold wrap64; omega
    simp only [spec_fiRises.l0]
    rw [if_pos (by omega),e1,if_pos (by omega),if_pos (by omega),if_pos (by omega),rd_nat l i (by omega),rd_nat l (i - 1) (by omega),e2,ih k (i + 1) (by omega) (by omega) (by omega) (by omega),
      List.drop_eq_getElem_cons (show i - 1 < l.length by omega),show i - 1 + 1 = i by omega,show i + 1 - 1 = i by omega,List.drop_eq_getElem_cons (show i < l.length by omega)]
    by_cases hlt:l[i - 1] ≥ l[i]
    · rw [if_pos hlt]
      simp only [risingB]
      rw [decide_eq_false (by omega)]
      rfl
    · rw [if_neg hlt]
      simp only [risingB]
      rw [decide_eq_true (by omega)]
      rfl
theorem l1All_l0 (l:List Int) (lo hi:Int) (hL:l.length ≤ 4000000):∀ (d k i:Nat),l.length - i = d → i ≤ l.length → d < k → spec_l1All.l0 k lo hi l (l.length:Int) (i:Int) = some (inB lo hi (l.drop i)):=by
  intro d
  induction d with
  | zero =>
    intro k i h1 h3 h4
    obtain ⟨k,rfl⟩:∃ m,k = m + 1:=⟨k - 1,by omega⟩
    simp only [spec_l1All.l0]
    rw [if_neg (by omega),List.drop_of_length_le (by omega)]
    rfl
  | succ d ih =>
    intro k i h1 h3 h4
    obtain ⟨k,rfl⟩:∃ m,k = m + 1:=⟨k - 1,by omega⟩
    have e2:wrap64 ((i:Int) + 1) = ((i + 1:Nat):Int):=by unfold wrap64; omega
    have e3:∀ x:Int,spec_l1In.f x lo hi = some (decide (lo ≤ x) && decide (x ≤ hi)):=fun x => by
      unfold spec_l1In.f
      by_cases h:lo ≤ x
      · rw [if_pos h,decide_eq_true h]; rfl
      · rw [if_neg (show ¬ x ≥ lo from h),decide_eq_false h]; rfl
    simp only [spec_l1All.l0]
    rw [if_pos (by omega),if_pos (by omega),if_pos (by omega),rd_nat l i (by omega),e3,Option.bind_some,e2,ih k (i + 1) (by omega) (by omega) (by omega),List.drop_eq_getElem_cons (show i < l.length by omega)]
    unfold inB
    rw [List.all_cons]
    cases (decide (lo ≤ l[i]) && decide (l[i] ≤ hi)) <;> rfl
theorem l1All_f (l:List Int) (lo hi:Int) (hL:l.length ≤ 4000000) (k:Nat) (hk:l.length < k):spec_l1All.f k l lo hi = some (inB lo hi l):=by
  unfold spec_l1All.f
  exact l1All_l0 l lo hi hL l.length k 0 (by omega) (by omega) hk
theorem rising_len (l:List Int):∀ (lo hi:Int),risingB l = true → inB lo hi l = true → (l.length:Int) ≤ hi - lo + 1 ∨ l = []:=by
  induction l with
  | nil => intro lo hi _ _; exact .inr rfl
  | cons a t ih =>
    intro lo hi h1 h2
    unfold inB at h2
    rw [List.all_cons,Bool.and_eq_true,Bool.and_eq_true,decide_eq_true_iff,decide_eq_true_iff] at h2
    obtain ⟨⟨h3,h4⟩,h5⟩:=h2
    left
    cases t with
    | nil => simp; omega
    | cons b t =>
      simp only [risingB,Bool.and_eq_true,decide_eq_true_iff] at h1
      have h6:inB (a + 1) hi (b :: t) = true:=by
        have hr:∀ (t:List Int) (a b:Int),a < b → risingB (b :: t) = true → ∀ x ∈ b :: t,a < x:=by
          intro t
          induction t with
          | nil => intro a b hab _ x hx; simp at hx; omega
          | cons c t ih2 =>
            intro a b hab hr x hx
            simp only [risingB,Bool.and_eq_true,decide_eq_true_iff] at hr
            rcases List.mem_cons.1 hx with rfl | hx
            · exact hab
            · have:=ih2 b c hr.1 hr.2 x hx; omega
        unfold inB
        rw [List.all_eq_true] at h5 ⊢
        intro x hx
        have h7:=h5 x hx
        have h8:=hr t a b h1.1 h1.2 x hx
        simp only [Bool.and_eq_true,decide_eq_true_iff] at h7 ⊢
        omega
      rcases ih (a + 1) hi h1.2 h6 with h | h
      · simp at h ⊢; omega
      · cases h
def figB (w h:Int) (a u:List Int):Bool :=
  (decide (1 ≤ w) && decide (w ≤ 4) && decide (1 ≤ h) && decide (h ≤ 4)) && (risingB a && (risingB u && (inB 0 (w * (h + 1) - 1) a && inB 0 (h * (w + 1) - 1) u)))
theorem within_f (n lo hi:Int):impl_within.f n lo hi = some (decide (lo ≤ n) && decide (n ≤ hi)):=by
  unfold impl_within.f
  by_cases h:lo ≤ n
  · rw [if_pos h,decide_eq_true h]; rfl
  · rw [if_neg h,decide_eq_false h]; rfl
theorem l1In_f (n lo hi:Int):spec_l1In.f n lo hi = some (decide (lo ≤ n) && decide (n ≤ hi)):=by
  unfold spec_l1In.f
  by_cases h:lo ≤ n
  · rw [if_pos h,decide_eq_true h]; rfl
  · rw [if_neg (show ¬ n ≥ lo from h),decide_eq_false h]; rfl
theorem isGrid_f (w h:Int):impl_isGrid.f w h = some (decide (1 ≤ w) && decide (w ≤ 4) && decide (1 ≤ h) && decide (h ≤ 4)):=by
  unfold impl_isGrid.f
  rw [within_f,within_f,Option.bind_some,Option.bind_some]
  cases (decide (1 ≤ w) && decide (w ≤ 4)) <;> simp
theorem fiGrid_f (w h:Int):spec_fiGrid.f w h = some (decide (1 ≤ w) && decide (w ≤ 4) && decide (1 ≤ h) && decide (h ≤ 4)):=by
  unfold spec_fiGrid.f
  rw [l1In_f,l1In_f,Option.bind_some,Option.bind_some]
  cases (decide (1 ≤ w) && decide (w ≤ 4)) <;> simp
theorem grid_bounds {w h:Int} (hg:(decide (1 ≤ w) && decide (w ≤ 4) && decide (1 ≤ h) && decide (h ≤ 4)) = true):1 ≤ w ∧ w ≤ 4 ∧ 1 ≤ h ∧ h ≤ 4:=by
  simp only [Bool.and_eq_true,decide_eq_true_iff] at hg; omega
theorem area_bounds {w h:Int} (h1:1 ≤ w) (h2:w ≤ 4) (h3:1 ≤ h) (h4:h ≤ 4):2 ≤ w * (h + 1) ∧ w * (h + 1) ≤ 20 ∧ 2 ≤ h * (w + 1) ∧ h * (w + 1) ≤ 20:=by
  have:w = 1 ∨ w = 2 ∨ w = 3 ∨ w = 4:=by omega
  rcases this with rfl | rfl | rfl | rfl <;> omega
theorem IsFigure_f (w h:Int) (a u:List Int) (ha:a.length ≤ 1000000) (hu:u.length ≤ 1000000) (k:Nat) (hk:1000010 < k):impl_IsFigure.f k w h a u = some (figB w h a u):=by
  unfold impl_IsFigure.f figB
  rw [isGrid_f,Option.bind_some]
  by_cases hg:(decide (1 ≤ w) && decide (w ≤ 4) && decide (1 ≤ h) && decide (h ≤ 4)) = true
  · rw [if_pos hg,hg,isRising_f a (by omega) k (by omega),isRising_f u (by omega) k (by omega),Option.bind_some]
    obtain ⟨b1,b2,b3,b4⟩:=grid_bounds hg
    obtain ⟨c1,c2,c3,c4⟩:=area_bounds b1 b2 b3 b4
    have e1:wrap64 (h + 1) = h + 1:=by unfold wrap64; omega
    have e2:wrap64 (w + 1) = w + 1:=by unfold wrap64; omega
    have e3:wrap64 (w * (h + 1)) = w * (h + 1):=by unfold wrap64; omega
    have e4:wrap64 (h * (w + 1)) = h * (w + 1):=by unfold wrap64; omega
    have e5:wrap64 (w * (h + 1) - 1) = w * (h + 1) - 1:=by unfold wrap64; omega
    have e6:wrap64 (h * (w + 1) - 1) = h * (w + 1) - 1:=by unfold wrap64; omega
    unfold impl_Figure_grid.f impl_grid_levels.f impl_grid_uprights.f impl_areWithin.f
    simp only [Option.bind_some,e1,e2,e3,e4,e5,e6]
    have key:∀ A B C D:Bool,(if A = true then (if B = true then (if C = true then some D else some false) else some false) else some false) = some (true && (A && (B && (C && D)))):=by decide
    exact key _ _ _ _
  · rw [if_neg hg,Bool.eq_false_iff.mpr hg]
    rfl
theorem fiRises_f (l:List Int) (m:Int) (hm0:0 ≤ m) (hm:m ≤ 100) (hl:l.length ≤ 1000000) (k:Nat) (hk:1000010 < k):spec_fiRises.f k l m = some (risingB l && inB 0 m l):=by
  unfold spec_fiRises.f
  have e:wrap64 (m + 1) = m + 1:=by unfold wrap64; omega
  have hj:∀ b:Bool,spec_fiRises.j0 k l b = some (!b && risingB l):=fun b => by
    obtain ⟨k,rfl⟩:∃ q,k = q + 1:=⟨k - 1,by omega⟩
    simp only [spec_fiRises.j0]
    cases b with
    | true => rfl
    | false =>
      rw [if_neg (by simp)]
      by_cases h0:l.length = 0
      · have:l = []:=List.length_eq_zero_iff.1 h0
        subst this
        obtain ⟨k,rfl⟩:∃ q,k = q + 1:=⟨k - 1,by omega⟩
        simp only [spec_fiRises.l0]
        rw [if_neg (by simp)]
        rfl
      · rw [show (1:Int) = ((1:Nat):Int) from rfl,fiRises_l0 l (by omega) (l.length - 1) k 1 rfl (by omega) (by omega) (by omega)]
        rfl
  rw [e,hj,l1All_f l 0 m (by omega) k (by omega),Option.bind_some,hj]
  by_cases hgt:(l.length:Int) > m + 1
  · rw [if_pos hgt]
    cases h1:risingB l with
    | false => rfl
    | true =>
      cases h2:inB 0 m l with
      | false => rfl
      | true =>
        rcases rising_len l 0 m h1 h2 with h | h
        · omega
        · subst h; simp at hgt; omega
  · rw [if_neg hgt,Bool.not_not,Bool.and_comm]
theorem fiGood_f (w h:Int) (a u:List Int) (ha:a.length ≤ 1000000) (hu:u.length ≤ 1000000) (k:Nat) (hk:1000010 < k):spec_fiGood.f k w h a u = some (figB w h a u):=by
  unfold spec_fiGood.f figB
  rw [fiGrid_f,Option.bind_some]
  by_cases hg:(decide (1 ≤ w) && decide (w ≤ 4) && decide (1 ≤ h) && decide (h ≤ 4)) = true
  · rw [if_pos hg,hg]
    obtain ⟨b1,b2,b3,b4⟩:=grid_bounds hg
    obtain ⟨c1,c2,c3,c4⟩:=area_bounds b1 b2 b3 b4
    have e1:wrap64 (h + 1) = h + 1:=by unfold wrap64; omega
    have e2:wrap64 (w + 1) = w + 1:=by unfold wrap64; omega
    have e3:wrap64 (w * (h + 1)) = w * (h + 1):=by unfold wrap64; omega
    have e4:wrap64 ((w + 1) * h) = h * (w + 1):=by rw [Int.mul_comm]; unfold wrap64; omega
    have e5:wrap64 (w * (h + 1) - 1) = w * (h + 1) - 1:=by unfold wrap64; omega
    have e6:wrap64 (h * (w + 1) - 1) = h * (w + 1) - 1:=by unfold wrap64; omega
    rw [e1,e2,e3,e4,e5,e6,fiRises_f a _ (by omega) (by omega) ha k hk,fiRises_f u _ (by omega) (by omega) hu k hk,Option.bind_some,Option.bind_some]
    cases risingB a <;> cases risingB u <;> simp
    cases inB 0 (w * (h + 1) - 1) a <;> simp
  · rw [if_neg hg,Bool.eq_false_iff.mpr hg]
    rfl


theorem u64_small (n:Int) (h0:0 ≤ n) (h1:n < 2 ^ 60):IntKind.u64.wrap n = n:=by
 have:IntKind.u64.wrap n = n % 18446744073709551616:=by simp [IntKind.wrap,IntKind.bits,IntKind.signed]
 rw [this]; omega
theorem or_u64 (a b:Nat) (ha:a < 2 ^ 60) (hb:b < 2 ^ 60):Go.bits .or .u64 (a:Int) (b:Int) = ((a ||| b:Nat):Int):=(bits_nat .u64 60 (by decide) u64_small a b ha hb).2
theorem and_u64 (a b:Nat) (ha:a < 2 ^ 60) (hb:b < 2 ^ 60):Go.bits .and .u64 (a:Int) (b:Int) = ((a &&& b:Nat):Int):=(bits_nat .u64 60 (by decide) u64_small a b ha hb).1
theorem pow_lt60 {n:Nat} (h:n < 60):2 ^ n < 2 ^ 60:=Nat.pow_lt_pow_right (by decide) h
theorem shl_u64 (n:Nat) (h:n < 60):shl .u64 1 (n:Int) = ((2 ^ n:Nat):Int):=by
 unfold shl
 rw [Int.toNat_natCast,show min n IntKind.u64.bits = n from Nat.min_eq_left (by show n ≤ 64; omega),Int.one_mul]
 have h2:=pow_lt60 h
 rw [u64_small _ (by exact_mod_cast Nat.zero_le _) (by exact_mod_cast h2)]
 norm_cast
def bitsFrom (s:Nat) (l:List Int) (m:Nat):Nat:=l.foldl (fun m k => m ||| 2 ^ (s + k.toNat)) m
theorem bitsFrom_test (s:Nat) (l:List Int) (i:Nat):∀ m,(bitsFrom s l m).testBit i = (m.testBit i || l.any fun k => decide (s + k.toNat = i)):=by
 induction l with
 | nil => intro m; simp [bitsFrom]
 | cons a t ih =>
  intro m
  have:=ih (m ||| 2 ^ (s + a.toNat))
  unfold bitsFrom at this ⊢
  rw [List.foldl_cons,this,Nat.testBit_or,Nat.testBit_two_pow,List.any_cons,Bool.or_assoc]
theorem inB_mem {lo hi:Int} {l:List Int} (h:inB lo hi l = true) (x:Int) (hx:x ∈ l):lo ≤ x ∧ x ≤ hi:=by
 unfold inB at h
 rw [List.all_eq_true] at h
 have:=h x hx
 simpa using this
def figMask (w h:Int) (a u:List Int):Nat:=bitsFrom (w * (h + 1)).toNat u (bitsFrom 0 a 0)
theorem figMask_level {w h:Int} {a u:List Int} (hf:figB w h a u = true) (e:Nat) (he:(e:Int) < w * (h + 1)):(figMask w h a u).testBit e = decide ((e:Int) ∈ a):=by
 unfold figB at hf
 simp only [Bool.and_eq_true] at hf
 obtain ⟨hg,-,-,hi1,hi2⟩:=hf
 unfold figMask
 rw [bitsFrom_test,bitsFrom_test,Nat.zero_testBit,Bool.false_or]
 rw [show (u.any fun k => decide ((w * (h + 1)).toNat + k.toNat = e)) = false from by
  rw [List.any_eq_false]; intro k hk; have:=inB_mem hi2 k hk; simp; omega]
 rw [Bool.or_false,Bool.eq_iff_iff,List.any_eq_true,decide_eq_true_iff]
 constructor
 ·rintro ⟨k,hk,hke⟩
  have:=inB_mem hi1 k hk
  simp at hke
  rw [show (e:Int) = k by omega]
  exact hk
 ·intro hm
  exact ⟨_,hm,by simp⟩
theorem figMask_upright {w h:Int} {a u:List Int} (hf:figB w h a u = true) (e:Nat):(figMask w h a u).testBit ((w * (h + 1)).toNat + e) = decide ((e:Int) ∈ u):=by
 unfold figB at hf
 simp only [Bool.and_eq_true] at hf
 obtain ⟨hg,-,-,hi1,hi2⟩:=hf
 obtain ⟨b1,b2,b3,b4⟩:=grid_bounds (by simp only [Bool.and_eq_true]; exact hg)
 obtain ⟨c1,c2,c3,c4⟩:=area_bounds b1 b2 b3 b4
 unfold figMask
 rw [bitsFrom_test,bitsFrom_test,Nat.zero_testBit,Bool.false_or]
 rw [show (a.any fun k => decide (0 + k.toNat = (w * (h + 1)).toNat + e)) = false from by
  rw [List.any_eq_false]; intro k hk; have:=inB_mem hi1 k hk; simp; omega]
 rw [Bool.false_or,Bool.eq_iff_iff,List.any_eq_true,decide_eq_true_iff]
 constructor
 ·rintro ⟨k,hk,hke⟩
  have:=inB_mem hi2 k hk
  simp at hke
  rw [show (e:Int) = k by omega]
  exact hk
 ·intro hm
  exact ⟨_,hm,by simp⟩
theorem set_l1 (w h:Int) (a u:List Int) (hL:u.length ≤ 4000000) (hw:wrap64 (w * wrap64 (h + 1)) = w * (h + 1)) (h0:0 ≤ w * (h + 1)) (h1:w * (h + 1) ≤ 20) (hu:∀ k ∈ u,0 ≤ k ∧ k ≤ 20):∀ (d k i:Nat) (m:Nat),u.length - i = d → i ≤ u.length → d < k → m < 2 ^ 60 →
  impl_Figure_set.l1 k (m:Int) u (u.length:Int) (i:Int) w h a u = some ((bitsFrom (w * (h + 1)).toNat (u.drop i) m:Nat):Int):=by
 intro d
 induction d with
 | zero =>
  intro k i m h2 h3 h4 h5
  obtain ⟨k,rfl⟩:∃ q,k = q + 1:=⟨k - 1,by omega⟩
  simp only [impl_Figure_set.l1]
  rw [if_neg (by omega),List.drop_of_length_le (by omega)]
  rfl
 | succ d ih =>
  intro k i m h2 h3 h4 h5
  obtain ⟨k,rfl⟩:∃ q,k = q + 1:=⟨k - 1,by omega⟩
  have hi:i < u.length:=by omega
  have hk:=hu u[i] (List.getElem_mem hi)
  have e2:wrap64 ((i:Int) + 1) = ((i + 1:Nat):Int):=by unfold wrap64; omega
  have e3:wrap64 (w * (h + 1) + u[i]) = (((w * (h + 1)).toNat + u[i].toNat:Nat):Int):=by unfold wrap64; omega
  have hlt:(w * (h + 1)).toNat + u[i].toNat < 60:=by omega
  simp only [impl_Figure_set.l1]
  unfold impl_Figure_grid.f impl_grid_levels.f
  rw [if_pos (by omega),if_pos (by omega),if_pos (by omega),rd_nat u i hi,Option.bind_some,Option.bind_some,hw,e3,if_pos (by omega),shl_u64 _ hlt,or_u64 _ _ h5 (pow_lt60 hlt),e2,
   ih k (i + 1) _ (by omega) (by omega) (by omega) (Nat.or_lt_two_pow h5 (pow_lt60 hlt)),List.drop_eq_getElem_cons hi]
  rfl
theorem set_l0 (w h:Int) (a u:List Int) (hL:a.length ≤ 4000000) (hLu:u.length ≤ 4000000) (hw:wrap64 (w * wrap64 (h + 1)) = w * (h + 1)) (h0:0 ≤ w * (h + 1)) (h1:w * (h + 1) ≤ 20) (ha:∀ k ∈ a,0 ≤ k ∧ k ≤ 20) (hu:∀ k ∈ u,0 ≤ k ∧ k ≤ 20):∀ (d k i:Nat) (m:Nat),a.length - i = d → i ≤ a.length → d + u.length + 2 < k → m < 2 ^ 60 →
  impl_Figure_set.l0 k (m:Int) a (a.length:Int) (i:Int) w h a u = some ((bitsFrom (w * (h + 1)).toNat u (bitsFrom 0 (a.drop i) m):Nat):Int):=by
 intro d
 induction d with
 | zero =>
  intro k i m h2 h3 h4 h5
  obtain ⟨k,rfl⟩:∃ q,k = q + 1:=⟨k - 1,by omega⟩
  simp only [impl_Figure_set.l0]
  rw [if_neg (by omega),List.drop_of_length_le (by omega)]
  exact set_l1 w h a u hLu hw h0 h1 hu u.length k 0 m (by omega) (by omega) (by omega) h5
 | succ d ih =>
  intro k i m h2 h3 h4 h5
  obtain ⟨k,rfl⟩:∃ q,k = q + 1:=⟨k - 1,by omega⟩
  have hi:i < a.length:=by omega
  have hk:=ha a[i] (List.getElem_mem hi)
  have e2:wrap64 ((i:Int) + 1) = ((i + 1:Nat):Int):=by unfold wrap64; omega
  have c1:(i:Int) < (a.length:Int):=Int.ofNat_lt.2 hi
  have c2:(0:Int) ≤ (i:Int):=Int.natCast_nonneg _
  have hr:=rd_nat a i hi
  have hd:=List.drop_eq_getElem_cons hi
  have n1:a.length - (i + 1) = d:=by clear hk hr hd c1 c2 ih h5 hw h0 h1 hu ha; omega
  have n2:i + 1 ≤ a.length:=hi
  have n3:d + u.length + 2 < k:=by clear hk hr hd c1 c2 ih h5 hw h0 h1 hu ha; omega
  have hih:=fun m hm => ih k (i + 1) m n1 n2 n3 hm
  generalize a[i] = x at hk hr hd
  obtain ⟨hk1,hk2⟩:=hk
  obtain ⟨y,rfl⟩:∃ y:Nat,x = (y:Int):=⟨x.toNat,(Int.toNat_of_nonneg hk1).symm⟩
  have hlt:y < 60:=by clear hr hd c1 c2 ih h5 hw h0 h1 hu ha hih; omega
  simp only [impl_Figure_set.l0]
  rw [if_pos c1,if_pos c2,if_pos c1,hr,if_pos hk1,shl_u64 _ hlt,or_u64 _ _ h5 (pow_lt60 hlt),e2,hih _ (Nat.or_lt_two_pow h5 (pow_lt60 hlt)),hd]
  unfold bitsFrom
  rw [List.foldl_cons,Nat.zero_add,Int.toNat_natCast]
theorem set_f {w h:Int} {a u:List Int} (hf:figB w h a u = true) (ha:a.length ≤ 1000000) (hu:u.length ≤ 1000000) (k:Nat) (hk:2000010 < k):impl_Figure_set.f k w h a u = some ((figMask w h a u:Nat):Int):=by
 unfold figB at hf
 simp only [Bool.and_eq_true] at hf
 obtain ⟨hg,-,-,hi1,hi2⟩:=hf
 obtain ⟨b1,b2,b3,b4⟩:=grid_bounds (by simp only [Bool.and_eq_true]; exact hg)
 obtain ⟨c1,c2,c3,c4⟩:=area_bounds b1 b2 b3 b4
 have e1:wrap64 (h + 1) = h + 1:=by unfold wrap64; omega
 have e3:wrap64 (w * (h + 1)) = w * (h + 1):=by unfold wrap64; omega
 unfold impl_Figure_set.f figMask
 have q:=set_l0 w h a u (by omega) (by omega) (by rw [e1,e3]) (by omega) (by omega) (fun k hk => by have:=inB_mem hi1 k hk; omega) (fun k hk => by have:=inB_mem hi2 k hk; omega) a.length k 0 0 (by omega) (by omega) (by clear hi1 hi2; omega) (by decide)
 rw [List.drop_zero] at q
 exact q


structure GridOK (w h:Int):Prop where
  w1:1 ≤ w
  w4:w ≤ 4
  h1:1 ≤ h
  h4:h ≤ 4
theorem gridOK_of {w h:Int} {a u:List Int} (hf:figB w h a u = true):GridOK w h:=by
  unfold figB at hf
  simp only [Bool.and_eq_true] at hf
  obtain ⟨b1,b2,b3,b4⟩:=grid_bounds (by simp only [Bool.and_eq_true]; exact hf.1)
  exact ⟨b1,b2,b3,b4⟩
theorem prod_b {w y:Int} (h1:1 ≤ w) (h4:w ≤ 5) (hy:0 ≤ y) (hy4:y ≤ 4):0 ≤ y * w ∧ y * w ≤ 20:=by
  have:y = 0 ∨ y = 1 ∨ y = 2 ∨ y = 3 ∨ y = 4:=by omega
  rcases this with rfl | rfl | rfl | rfl | rfl <;> omega
theorem level_f {w h x y:Int} (g:GridOK w h) (hx:0 ≤ x) (hx4:x ≤ 4) (hy:0 ≤ y) (hy4:y ≤ 4):impl_grid_level.f w h x y = some ((2 ^ (y * w + x).toNat:Nat):Int):=by
  obtain ⟨p1,p2⟩:=prod_b g.w1 (by have:=g.w4; omega) hy hy4
  have e1:wrap64 (y * w) = y * w:=by unfold wrap64; omega
  have e2:wrap64 (y * w + x) = (((y * w + x).toNat:Nat):Int):=by unfold wrap64; omega
  unfold impl_grid_level.f
  rw [e1,e2,if_pos (Int.natCast_nonneg _),shl_u64 _ (by omega)]
theorem upright_f {w h x y:Int} (g:GridOK w h) (hx:0 ≤ x) (hx4:x ≤ 4) (hy:0 ≤ y) (hy4:y ≤ 4):impl_grid_upright.f w h x y = some ((2 ^ ((w * (h + 1)).toNat + (y * (w + 1) + x).toNat):Nat):Int):=by
  obtain ⟨p1,p2⟩:=prod_b (w:=w + 1) (by have:=g.w1; omega) (by have:=g.w4; omega) hy hy4
  obtain ⟨c1,c2,-,-⟩:=area_bounds g.w1 g.w4 g.h1 g.h4
  have w1:=g.w1
  have w4:=g.w4
  have h1:=g.h1
  have h4:=g.h4
  have e0:wrap64 (h + 1) = h + 1:=by unfold wrap64; omega
  have e1:wrap64 (w + 1) = w + 1:=by unfold wrap64; omega
  have e2:wrap64 (w * (h + 1)) = w * (h + 1):=by unfold wrap64; omega
  have e3:wrap64 (y * (w + 1)) = y * (w + 1):=by unfold wrap64; omega
  have e4:wrap64 (w * (h + 1) + y * (w + 1)) = w * (h + 1) + y * (w + 1):=by unfold wrap64; omega
  have e5:wrap64 (w * (h + 1) + y * (w + 1) + x) = (((w * (h + 1)).toNat + (y * (w + 1) + x).toNat:Nat):Int):=by unfold wrap64; omega
  unfold impl_grid_upright.f impl_grid_levels.f
  rw [Option.bind_some,e0,e1,e2,e3,e4,e5,if_pos (Int.natCast_nonneg _),shl_u64 _ (by omega)]
theorem l1Has_l0 (l:List Int) (n:Int) (hL:l.length ≤ 4000000):∀ (d k i:Nat),l.length - i = d → i ≤ l.length → d < k → spec_l1Has.l0 k n l (l.length:Int) (i:Int) = some (decide (n ∈ l.drop i)):=by
  intro d
  induction d with
  | zero =>
    intro k i h1 h3 h4
    obtain ⟨k,rfl⟩:∃ m,k = m + 1:=⟨k - 1,by omega⟩
    simp only [spec_l1Has.l0]
    rw [if_neg (by omega),List.drop_of_length_le (by omega)]
    rfl
  | succ d ih =>
    intro k i h1 h3 h4
    obtain ⟨k,rfl⟩:∃ m,k = m + 1:=⟨k - 1,by omega⟩
    have e2:wrap64 ((i:Int) + 1) = ((i + 1:Nat):Int):=by unfold wrap64; omega
    simp only [spec_l1Has.l0]
    rw [if_pos (by omega),if_pos (by omega),if_pos (by omega),rd_nat l i (by omega),e2,ih k (i + 1) (by omega) (by omega) (by omega),List.drop_eq_getElem_cons (show i < l.length by omega)]
    by_cases hn:l[i] = n
    · rw [if_pos hn,decide_eq_true (show n ∈ l[i] :: l.drop (i + 1) by rw [hn]; exact List.mem_cons_self)]
    · rw [if_neg hn]
      congr 1
      rw [decide_eq_decide,List.mem_cons]
      constructor
      · exact Or.inr
      · rintro (h | h)
        · exact absurd h.symm hn
        · exact h
theorem l1Has_f (l:List Int) (n:Int) (hL:l.length ≤ 4000000) (k:Nat) (hk:l.length < k):spec_l1Has.f k l n = some (decide (n ∈ l)):=by
  unfold spec_l1Has.f
  exact l1Has_l0 l n hL l.length k 0 (by omega) (by omega) hk
theorem fiHas_level {w h:Int} {a u:List Int} (g:GridOK w h) (hf:figB w h a u = true) (ha:a.length ≤ 1000000) (k:Nat) (hk:1000000 < k) (x y:Int) (hx0:0 ≤ x) (hx1:x < w) (hy0:0 ≤ y) (hy1:y ≤ h) :
    spec_fiHas.f k w h a u false x y = some ((figMask w h a u).testBit (y * w + x).toNat):=by
  have w1:=g.w1
  have w4:=g.w4
  have h1:=g.h1
  have h4:=g.h4
  obtain ⟨p1,p2⟩:=prod_b (w:=w) (y:=y) w1 (by omega) hy0 (by omega)
  have e0:wrap64 (w - 1) = w - 1:=by unfold wrap64; omega
  have e1:wrap64 (y * w) = y * w:=by unfold wrap64; omega
  have e2:wrap64 (y * w + x) = y * w + x:=by unfold wrap64; omega
  have hlt:((y * w + x).toNat:Int) < w * (h + 1):=by
    have c1:y = 0 ∨ y = 1 ∨ y = 2 ∨ y = 3 ∨ y = 4:=by omega
    have c2:h = 1 ∨ h = 2 ∨ h = 3 ∨ h = 4:=by omega
    clear e0 e1 e2 hf
    rcases c2 with rfl | rfl | rfl | rfl <;> rcases c1 with rfl | rfl | rfl | rfl | rfl <;> omega
  have ht:((y * w + x).toNat:Int) = y * w + x:=by omega
  unfold spec_fiHas.f spec_fiEdge.f
  rw [if_neg (by decide),l1In_f,Option.bind_some,e0,decide_eq_true hx0,decide_eq_true (show x ≤ w - 1 by omega),if_pos (show (true && true) = true from rfl),l1In_f,Option.bind_some,decide_eq_true hy0,decide_eq_true hy1,Option.bind_some,if_neg (show ¬ false = true by decide),e1,e2,l1Has_f a _ (by omega) k (by omega),Option.bind_some,figMask_level hf _ hlt,ht]
theorem fiHas_upright {w h:Int} {a u:List Int} (g:GridOK w h) (hf:figB w h a u = true) (hu:u.length ≤ 1000000) (k:Nat) (hk:1000000 < k) (x y:Int) (hx0:0 ≤ x) (hx1:x ≤ w) (hy0:0 ≤ y) (hy1:y < h) :
    spec_fiHas.f k w h a u true x y = some ((figMask w h a u).testBit ((w * (h + 1)).toNat + (y * (w + 1) + x).toNat)):=by
  have w1:=g.w1
  have w4:=g.w4
  have h1:=g.h1
  have h4:=g.h4
  obtain ⟨p1,p2⟩:=prod_b (w:=w + 1) (y:=y) (by omega) (by omega) hy0 (by omega)
  have e0:wrap64 (h - 1) = h - 1:=by unfold wrap64; omega
  have e3:wrap64 (w + 1) = w + 1:=by unfold wrap64; omega
  have e1:wrap64 (y * (w + 1)) = y * (w + 1):=by unfold wrap64; omega
  have e2:wrap64 (y * (w + 1) + x) = y * (w + 1) + x:=by unfold wrap64; omega
  have ht:((y * (w + 1) + x).toNat:Int) = y * (w + 1) + x:=by omega
  unfold spec_fiHas.f spec_fiEdge.f
  rw [if_pos rfl,l1In_f,Option.bind_some,e0,e3,decide_eq_true hx0,decide_eq_true hx1,if_pos (show (true && true) = true from rfl),l1In_f,Option.bind_some,Option.bind_some,if_pos rfl,e1,e2,l1Has_f u _ (by omega) k (by omega),Option.bind_some,figMask_upright hf,ht]
theorem and_two (e m:Nat):2 ^ e &&& m = if m.testBit e = true then 2 ^ e else 0:=by
  apply Nat.eq_of_testBit_eq
  intro i
  rw [Nat.testBit_and,Nat.testBit_two_pow]
  by_cases h:m.testBit e = true
  · rw [if_pos h,Nat.testBit_two_pow]
    by_cases hi:e = i
    · subst hi; simp [h]
    · simp [hi]
  · rw [if_neg h,Nat.zero_testBit]
    by_cases hi:e = i
    · subst hi; simpa using h
    · simp [hi]


def impl_bit.f (a0:Bool):Option (Int):=if a0 = true then (some 1) else (some 0)

def inC (w h x y:Int):Prop:=(0 ≤ x ∧ x ≤ w) ∧ (0 ≤ y ∧ y ≤ h)
instance (w h x y:Int):Decidable (inC w h x y):=by unfold inC; infer_instance
theorem isCorner_f (w h x y:Int):impl_grid_isCorner.f w h x y = some (decide (inC w h x y)):=by
  unfold impl_grid_isCorner.f inC
  rw [within_f,within_f,Option.bind_some,Option.bind_some]
  by_cases h1:0 ≤ x ∧ x ≤ w
  · rw [decide_eq_true h1.1,decide_eq_true h1.2]
    simp [h1]
  · rw [show (decide (0 ≤ x) && decide (x ≤ w)) = false by rw [Bool.eq_false_iff]; intro hh; simp at hh; exact h1 hh]
    simp [h1]
def btwE (w h x y d:Int):Option Nat :=
  if inC w h x y then
    if d = 110 then (if 1 ≤ y then some ((w * (h + 1)).toNat + ((y - 1) * (w + 1) + x).toNat) else none)
    else if d = 101 then (if x < w then some (y * w + x).toNat else none)
    else if d = 115 then (if y < h then some ((w * (h + 1)).toNat + (y * (w + 1) + x).toNat) else none)
    else (if 1 ≤ x then some (y * w + (x - 1)).toNat else none)
  else none
def maskE:Option Nat → Nat | none => 0 | some e => 2 ^ e
theorem between_f {w h x y d:Int} (g:GridOK w h) (hd:d = 110 ∨ d = 101 ∨ d = 115 ∨ d = 119) (k:Nat) (hk:0 < k):impl_grid_between.f k w h x y d = some ((maskE (btwE w h x y d):Nat):Int):=by
  obtain ⟨k,rfl⟩:∃ q,k = q + 1:=⟨k - 1,by omega⟩
  have w1:=g.w1
  have w4:=g.w4
  have h1:=g.h1
  have h4:=g.h4
  by_cases hc:inC w h x y
  · obtain ⟨⟨hx0,hx1⟩,hy0,hy1⟩:=id hc
    have wy1:wrap64 (y - 1) = y - 1:=by unfold wrap64; omega
    have wy2:wrap64 (y + 1) = y + 1:=by unfold wrap64; omega
    have wx1:wrap64 (x - 1) = x - 1:=by unfold wrap64; omega
    have wx2:wrap64 (x + 1) = x + 1:=by unfold wrap64; omega
    rcases hd with rfl | rfl | rfl | rfl
    · unfold impl_grid_between.f impl_Corner_next.f btwE
      rw [if_pos rfl,if_pos hc,if_pos rfl,Option.bind_some,isCorner_f,isCorner_f,Option.bind_some,Option.bind_some,decide_eq_true hc,if_pos rfl,wy1]
      simp only [impl_grid_between.j0]
      by_cases hy:1 ≤ y
      · rw [decide_eq_true (show inC w h x (y - 1) from ⟨⟨hx0,hx1⟩,by omega,by omega⟩),if_neg (by simp),if_neg (by omega),if_pos hy,show mn y (y - 1) = y - 1 by unfold mn; omega,upright_f g hx0 (by omega) (by omega) (by omega)]
        rfl
      · rw [decide_eq_false (show ¬ inC w h x (y - 1) from fun hh => by have:=hh.2.1; omega),if_pos (by simp),if_neg hy]
        rfl
    · unfold impl_grid_between.f impl_Corner_next.f btwE
      rw [if_neg (by decide),if_pos rfl,if_pos hc,if_neg (by decide),if_pos rfl,Option.bind_some,isCorner_f,isCorner_f,Option.bind_some,Option.bind_some,decide_eq_true hc,if_pos rfl,wx2]
      simp only [impl_grid_between.j0]
      by_cases hx:x < w
      · rw [decide_eq_true (show inC w h (x + 1) y from ⟨⟨by omega,by omega⟩,hy0,hy1⟩),if_neg (by simp),if_pos (by trivial),if_pos hx,show mn x (x + 1) = x by unfold mn; omega,level_f g hx0 (by omega) hy0 (by omega)]
        rfl
      · rw [decide_eq_false (show ¬ inC w h (x + 1) y from fun hh => by have:=hh.1.2; omega),if_pos (by simp),if_neg hx]
        rfl
    · unfold impl_grid_between.f impl_Corner_next.f btwE
      rw [if_neg (by decide),if_neg (by decide),if_pos rfl,if_pos hc,if_neg (by decide),if_neg (by decide),if_pos rfl,Option.bind_some,isCorner_f,isCorner_f,Option.bind_some,Option.bind_some,decide_eq_true hc,if_pos rfl,wy2]
      simp only [impl_grid_between.j0]
      by_cases hy:y < h
      · rw [decide_eq_true (show inC w h x (y + 1) from ⟨⟨hx0,hx1⟩,by omega,by omega⟩),if_neg (by simp),if_neg (by omega),if_pos hy,show mn y (y + 1) = y by unfold mn; omega,upright_f g hx0 (by omega) hy0 (by omega)]
        rfl
      · rw [decide_eq_false (show ¬ inC w h x (y + 1) from fun hh => by have:=hh.2.2; omega),if_pos (by simp),if_neg hy]
        rfl
    · unfold impl_grid_between.f impl_Corner_next.f btwE
      rw [if_neg (by decide),if_neg (by decide),if_neg (by decide),if_pos hc,if_neg (by decide),if_neg (by decide),if_neg (by decide),Option.bind_some,isCorner_f,isCorner_f,Option.bind_some,Option.bind_some,decide_eq_true hc,if_pos rfl,wx1]
      simp only [impl_grid_between.j0]
      by_cases hx:1 ≤ x
      · rw [decide_eq_true (show inC w h (x - 1) y from ⟨⟨by omega,by omega⟩,hy0,hy1⟩),if_neg (by simp),if_pos (by trivial),if_pos hx,show mn x (x - 1) = x - 1 by unfold mn; omega,level_f g (by omega) (by omega) hy0 (by omega)]
        rfl
      · rw [decide_eq_false (show ¬ inC w h (x - 1) y from fun hh => by have:=hh.1.1; omega),if_pos (by simp),if_neg hx]
        rfl
  · have hn:∃ p,impl_Corner_next.f x y d = some p:=by
      unfold impl_Corner_next.f
      rcases hd with rfl | rfl | rfl | rfl <;> exact ⟨_,rfl⟩
    obtain ⟨p,hp⟩:=hn
    unfold impl_grid_between.f btwE
    rw [hp,Option.bind_some,isCorner_f,Option.bind_some,decide_eq_false hc,if_neg (by simp),if_neg hc]
    simp only [impl_grid_between.j0]
    rfl
def bitE (m:Nat) (o:Option Nat):Int:=if (match o with | none => false | some e => m.testBit e) = true then 1 else 0
theorem btwE_lt {w h x y d:Int} (g:GridOK w h) (e:Nat) (he:btwE w h x y d = some e):e < 60:=by
  have w1:=g.w1
  have w4:=g.w4
  have h1:=g.h1
  have h4:=g.h4
  unfold btwE at he
  obtain ⟨c1,c2,-,-⟩:=area_bounds w1 w4 h1 h4
  by_cases hc:inC w h x y
  · rw [if_pos hc] at he
    obtain ⟨⟨hx0,hx1⟩,hy0,hy1⟩:=hc
    have q1:=prod_b (w:=w) w1 (by omega) hy0 (by omega)
    have q2:=prod_b (w:=w + 1) (by omega) (by omega) hy0 (by omega)
    split at he
    · split at he
      · have q3:=prod_b (w:=w + 1) (y:=y - 1) (by omega) (by omega) (by omega) (by omega)
        injection he with he; omega
      · cases he
    · split at he
      · split at he
        · injection he with he; omega
        · cases he
      · split at he
        · split at he
          · injection he with he; omega
          · cases he
        · split at he
          · injection he with he; omega
          · cases he
  · rw [if_neg hc] at he; cases he
def meetE (w h:Int) (m:Nat) (x y:Int):Int:=bitE m (btwE w h x y 110) + bitE m (btwE w h x y 101) + bitE m (btwE w h x y 115) + bitE m (btwE w h x y 119)
theorem bitE_01 (m:Nat) (o:Option Nat):0 ≤ bitE m o ∧ bitE m o ≤ 1:=by unfold bitE; split <;> omega


def stepB (w h:Int) (m:Nat) (x y d:Int):Bool:=match btwE w h x y d with | none => false | some e => m.testBit e
theorem bitE_step (w h:Int) (m:Nat) (x y d:Int):bitE m (btwE w h x y d) = if stepB w h m x y d = true then 1 else 0:=rfl
theorem liNext_f {w h:Int} {a u:List Int} (g:GridOK w h) (hf:figB w h a u = true) (ha:a.length ≤ 1000000) (hu:u.length ≤ 1000000) (k:Nat) (hk:1000000 < k) (x y:Int) (hc:inC w h x y) :
    spec_liNext.f k w h a u x y 0 = some (x,y - 1,stepB w h (figMask w h a u) x y 110) ∧ spec_liNext.f k w h a u x y 1 = some (x + 1,y,stepB w h (figMask w h a u) x y 101) ∧
    spec_liNext.f k w h a u x y 2 = some (x,y + 1,stepB w h (figMask w h a u) x y 115) ∧ spec_liNext.f k w h a u x y 3 = some (x - 1,y,stepB w h (figMask w h a u) x y 119):=by
  obtain ⟨⟨hx0,hx1⟩,hy0,hy1⟩:=id hc
  have w1:=g.w1
  have w4:=g.w4
  have h1:=g.h1
  have h4:=g.h4
  have wy1:wrap64 (y - 1) = y - 1:=by unfold wrap64; omega
  have wy2:wrap64 (y + 1) = y + 1:=by unfold wrap64; omega
  have wx1:wrap64 (x - 1) = x - 1:=by unfold wrap64; omega
  have wx2:wrap64 (x + 1) = x + 1:=by unfold wrap64; omega
  refine ⟨?_,?_,?_,?_⟩
  · unfold spec_liNext.f stepB btwE
    rw [if_pos rfl,wy1,if_pos hc,if_pos rfl]
    by_cases hh:0 < y
    · rw [if_pos (show y > 0 from hh),if_pos (show 1 ≤ y by omega),fiHas_upright g hf hu k hk x (y - 1) hx0 hx1 (by omega) (by omega),Option.bind_some]
    · rw [if_neg (show ¬ y > 0 from hh),if_neg (show ¬ 1 ≤ y by omega)]
  · unfold spec_liNext.f stepB btwE
    rw [if_neg (show ¬ (1:Int) = 0 by decide),if_pos rfl,wx2,if_pos hc,if_neg (show ¬ (101:Int) = 110 by decide),if_pos rfl]
    by_cases hh:x < w
    · rw [if_pos hh,if_pos hh,fiHas_level g hf ha k hk x y hx0 hh hy0 hy1,Option.bind_some]
    · rw [if_neg hh,if_neg hh]
  · unfold spec_liNext.f stepB btwE
    rw [if_neg (show ¬ (2:Int) = 0 by decide),if_neg (show ¬ (2:Int) = 1 by decide),if_pos rfl,wy2,if_pos hc,if_neg (show ¬ (115:Int) = 110 by decide),if_neg (show ¬ (115:Int) = 101 by decide),if_pos rfl]
    by_cases hh:y < h
    · rw [if_pos hh,if_pos hh,fiHas_upright g hf hu k hk x y hx0 hx1 hy0 hh,Option.bind_some]
    · rw [if_neg hh,if_neg hh]
  · unfold spec_liNext.f stepB btwE
    rw [if_neg (show ¬ (3:Int) = 0 by decide),if_neg (show ¬ (3:Int) = 1 by decide),if_neg (show ¬ (3:Int) = 2 by decide),wx1,if_pos hc,if_neg (show ¬ (119:Int) = 110 by decide),if_neg (show ¬ (119:Int) = 101 by decide),if_neg (show ¬ (119:Int) = 115 by decide)]
    by_cases hh:0 < x
    · rw [if_pos (show x > 0 from hh),if_pos (show 1 ≤ x by omega),fiHas_level g hf ha k hk (x - 1) y (by omega) (by omega) hy0 hy1,Option.bind_some]
    · rw [if_neg (show ¬ x > 0 from hh),if_neg (show ¬ 1 ≤ x by omega)]
theorem liMeet_f {w h:Int} {a u:List Int} (g:GridOK w h) (hf:figB w h a u = true) (ha:a.length ≤ 1000000) (hu:u.length ≤ 1000000) (k:Nat) (hk:1000010 < k) (x y:Int) (hc:inC w h x y) :
    spec_liMeet.f k w h a u x y = some (meetE w h (figMask w h a u) x y):=by
  obtain ⟨k,rfl⟩:∃ q,k = q + 5:=⟨k - 5,by omega⟩
  have i1:wrap64 ((0:Int) + 1) = 1:=by unfold wrap64; omega
  have i2:wrap64 ((1:Int) + 1) = 2:=by unfold wrap64; omega
  have i3:wrap64 ((2:Int) + 1) = 3:=by unfold wrap64; omega
  have i4:wrap64 ((3:Int) + 1) = 4:=by unfold wrap64; omega
  have step:∀ (k:Nat) (i acc d:Int) (p q:Int),i < 4 → 0 ≤ acc → acc ≤ 10 → spec_liNext.f k w h a u x y i = some (p,q,stepB w h (figMask w h a u) x y d) →
      spec_liMeet.l0 (k + 1) acc i w h a u x y = spec_liMeet.l0 k (acc + bitE (figMask w h a u) (btwE w h x y d)) (wrap64 (i + 1)) w h a u x y:=fun k i acc d p q h4 ha0 ha1 hn => by
    simp only [spec_liMeet.l0]
    rw [if_pos h4,hn,Option.bind_some,bitE_step]
    by_cases hs:stepB w h (figMask w h a u) x y d = true
    · rw [if_pos hs,if_pos hs,show wrap64 (acc + 1) = acc + 1 by unfold wrap64; omega]
    · rw [if_neg hs,if_neg hs,Int.add_zero]
  have b0:=bitE_01 (figMask w h a u) (btwE w h x y 110)
  have b1:=bitE_01 (figMask w h a u) (btwE w h x y 101)
  have b2:=bitE_01 (figMask w h a u) (btwE w h x y 115)
  have b3:=bitE_01 (figMask w h a u) (btwE w h x y 119)
  have n:=fun k hk => liNext_f g hf ha hu k hk x y hc
  unfold spec_liMeet.f meetE
  rw [step (k + 4) 0 0 110 _ _ (by omega) (by omega) (by omega) (n _ (by omega)).1,i1,step (k + 3) 1 _ 101 _ _ (by omega) (by omega) (by omega) (n _ (by omega)).2.1,i2,step (k + 2) 2 _ 115 _ _ (by omega) (by omega) (by omega) (n _ (by omega)).2.2.1,i3,step (k + 1) 3 _ 119 _ _ (by omega) (by omega) (by omega) (n _ (by omega)).2.2.2,i4]
  simp only [spec_liMeet.l0]
  rw [if_neg (by omega),Int.zero_add]
def cornL (w h:Int):List S103:=(List.range (h + 1).toNat).flatMap fun (y:Nat) => (List.range (w + 1).toNat).map fun (x:Nat) => (⟨(x:Int),(y:Int)⟩:S103)
theorem cornL_in {w h:Int} (g:GridOK w h):∀ c ∈ cornL w h,inC w h c.f0 c.f1:=by
  intro c hc
  have w1:=g.w1
  have h1:=g.h1
  unfold cornL at hc
  rw [List.mem_flatMap] at hc
  obtain ⟨y,hy,hc⟩:=hc
  rw [List.mem_map] at hc
  obtain ⟨x,hx,rfl⟩:=hc
  rw [List.mem_range] at hx hy
  exact ⟨⟨Int.natCast_nonneg _,by show (x:Int) ≤ w; omega⟩,Int.natCast_nonneg _,by show (y:Int) ≤ h; omega⟩
theorem grid_cases {w h:Int} (g:GridOK w h):(w = 1 ∨ w = 2 ∨ w = 3 ∨ w = 4) ∧ (h = 1 ∨ h = 2 ∨ h = 3 ∨ h = 4):=by
  have w1:=g.w1
  have w4:=g.w4
  have h1:=g.h1
  have h4:=g.h4
  constructor <;> omega
theorem cornL_len {w h:Int} (g:GridOK w h):(cornL w h).length ≤ 25:=by
  obtain ⟨cw,ch⟩:=grid_cases g
  clear g
  rcases cw with rfl | rfl | rfl | rfl <;> rcases ch with rfl | rfl | rfl | rfl <;> decide
theorem corners_f {w h:Int} (g:GridOK w h) (k:Nat) (hk:60 < k):impl_grid_corners.f k w h = some (cornL w h):=by
  obtain ⟨cw,ch⟩:=grid_cases g
  clear g
  rcases cw with rfl | rfl | rfl | rfl <;> rcases ch with rfl | rfl | rfl | rfl <;> exact up_rounds (fun k => impl_grid_corners.mono _ _ k) (Nat.le_of_lt hk) (by kernel_rfl)
theorem liAll_any (a u:List Int) (w h:Int):∀ k,(∀ xs y,spec_liAll.l0 k xs y w h a u = spec_liAll.l0 k xs y w h [] []) ∧ (∀ xs y x,spec_liAll.l1 k xs y x w h a u = spec_liAll.l1 k xs y x w h [] []):=by
  intro k
  induction k with
  | zero => exact ⟨fun _ _ => rfl,fun _ _ _ => rfl⟩
  | succ k ih =>
    obtain ⟨i0,i1⟩:=ih
    exact ⟨fun xs y => by simp only [spec_liAll.l0,i1],fun xs y x => by simp only [spec_liAll.l1,i0,i1]⟩
theorem liAll_f {w h:Int} (g:GridOK w h) (a u:List Int) (k:Nat) (hk:60 < k):spec_liAll.f k w h a u = some (cornL w h):=by
  obtain ⟨cw,ch⟩:=grid_cases g
  clear g
  unfold spec_liAll.f
  rw [(liAll_any a u w h k).1]
  show spec_liAll.f k w h [] [] = _
  rcases cw with rfl | rfl | rfl | rfl <;> rcases ch with rfl | rfl | rfl | rfl <;> exact up_rounds (fun k => spec_liAll.mono _ _ _ _ k) (Nat.le_of_lt hk) (by kernel_rfl)
theorem rd36_nat (l:List S103) (i:Nat) (h:i < l.length):rd_T103 l (i:Int) = l[i]:=by
  unfold rd_T103
  rw [Int.toNat_natCast,List.getD_eq_getElem?_getD,List.getElem?_eq_getElem h]
  rfl


theorem rising_ext:∀ {l m:List Int},l.Pairwise (· < ·) → m.Pairwise (· < ·) → (∀ x,x ∈ l ↔ x ∈ m) → l = m
  | [],[],_,_,_ => rfl
  | [],b :: m,_,_,h => by have:=(h b).2 List.mem_cons_self; cases this
  | a :: l,[],_,_,h => by have:=(h a).1 List.mem_cons_self; cases this
  | a :: l,b :: m,h1,h2,h => by
    rw [List.pairwise_cons] at h1 h2
    have e:a = b:=by
      rcases List.mem_cons.1 ((h a).1 List.mem_cons_self) with e | e
      · exact e
      · rcases List.mem_cons.1 ((h b).2 List.mem_cons_self) with e2 | e2
        · exact e2.symm
        · have:=h2.1 a e; have:=h1.1 b e2; omega
    subst e
    rw [rising_ext h1.2 h2.2 (fun x => ?_)]
    constructor
    · intro hx
      rcases List.mem_cons.1 ((h x).1 (List.mem_cons_of_mem _ hx)) with e | e
      · have:=h1.1 x hx; omega
      · exact e
    · intro hx
      rcases List.mem_cons.1 ((h x).2 (List.mem_cons_of_mem _ hx)) with e | e
      · have:=h2.1 x hx; omega
      · exact e
theorem rising_pw:∀ {l:List Int},risingB l = true → l.Pairwise (· < ·)
  | [],_ => List.Pairwise.nil
  | [a],_ => by simp
  | a :: b :: t,h => by
    simp only [risingB,Bool.and_eq_true,decide_eq_true_iff] at h
    have ih:=rising_pw h.2
    rw [List.pairwise_cons]
    refine ⟨fun x hx => ?_,ih⟩
    rcases List.mem_cons.1 hx with rfl | hx
    · exact h.1
    · rw [List.pairwise_cons] at ih
      have:=ih.1 x hx
      omega
theorem pw_rising:∀ {l:List Int},l.Pairwise (· < ·) → risingB l = true
  | [],_ => rfl
  | [a],_ => rfl
  | a :: b :: t,h => by
    rw [List.pairwise_cons] at h
    simp only [risingB,Bool.and_eq_true,decide_eq_true_iff]
    exact ⟨h.1 b List.mem_cons_self,pw_rising h.2⟩
def setL (n:Nat) (p:Nat → Bool):List Int:=((List.range n).filter p).map fun n:Nat => (n:Int)
theorem setL_pw (n:Nat) (p:Nat → Bool):(setL n p).Pairwise (· < ·):=by
  unfold setL
  rw [List.pairwise_map]
  exact (List.Pairwise.filter p List.pairwise_lt_range).imp (fun h => by omega)
theorem setL_mem (n:Nat) (p:Nat → Bool) (x:Int):x ∈ setL n p ↔ ∃ i:Nat,(i:Int) = x ∧ i < n ∧ p i = true:=by
  unfold setL
  rw [List.mem_map]
  constructor
  · rintro ⟨i,hi,rfl⟩
    rw [List.mem_filter,List.mem_range] at hi
    exact ⟨i,rfl,hi⟩
  · rintro ⟨i,rfl,hi⟩
    exact ⟨i,by rw [List.mem_filter,List.mem_range]; exact hi,rfl⟩
theorem setL_len (n:Nat) (p:Nat → Bool):(setL n p).length ≤ n:=by
  unfold setL
  rw [List.length_map]
  have:=List.length_filter_le p (List.range n)
  rw [List.length_range] at this
  exact this
theorem setL_congr {n:Nat} {p q:Nat → Bool} (h:∀ i,i < n → p i = q i):setL n p = setL n q:=by
  unfold setL
  congr 1
  exact List.filter_congr (fun i hi => h i (List.mem_range.1 hi))
theorem rising_setL {l:List Int} {n:Nat} (h:l.Pairwise (· < ·)) (hb:∀ x ∈ l,0 ≤ x ∧ x < (n:Int)) {p:Nat → Bool} (hp:∀ i:Nat,i < n → (p i = true ↔ (i:Int) ∈ l)):l = setL n p:=by
  refine rising_ext h (setL_pw n p) (fun x => ?_)
  rw [setL_mem]
  constructor
  · intro hx
    have hx2:=hb x hx
    obtain ⟨i,rfl⟩:=Int.eq_ofNat_of_zero_le hx2.1
    exact ⟨i,rfl,by omega,(hp i (by omega)).2 hx⟩
  · rintro ⟨i,rfl,hi,hpi⟩
    exact (hp i hi).1 hpi
theorem setL_filter (n:Nat) (p:Nat → Bool) (q:Int → Bool):(setL n p).filter q = setL n (fun i => p i && q (i:Int)):=by
  unfold setL
  rw [List.filter_map,List.filter_filter]
  congr 1
  apply List.filter_congr
  intro i _
  exact Bool.and_comm _ _
theorem setL_eq {n m:Nat} {p q:Nat → Bool} (h:∀ i,(i < n ∧ p i = true) ↔ (i < m ∧ q i = true)):setL n p = setL m q:=by
  refine rising_ext (setL_pw n p) (setL_pw m q) (fun x => ?_)
  rw [setL_mem,setL_mem]
  constructor
  · rintro ⟨i,hi,h2⟩; exact ⟨i,hi,(h i).1 h2⟩
  · rintro ⟨i,hi,h2⟩; exact ⟨i,hi,(h i).2 h2⟩
theorem setL_in (n:Nat) (p:Nat → Bool) (i:Nat):(i:Int) ∈ setL n p ↔ i < n ∧ p i = true:=by
  rw [setL_mem]
  constructor
  · rintro ⟨j,hj,h⟩
    have:j = i:=by omega
    subst this
    exact h
  · intro h; exact ⟨i,rfl,h⟩

def rowA (w h:Int) (M:Nat):List Int:=setL (w * (h + 1)).toNat fun i => M.testBit i
def rowU (w h:Int) (M:Nat):List Int:=setL (h * (w + 1)).toNat fun i => M.testBit ((w * (h + 1)).toNat + i)
def figN (w h:Int):Nat:=(w * (h + 1)).toNat + (h * (w + 1)).toNat
theorem figN_le {w h:Int} (g:GridOK w h):figN w h ≤ 40 ∧ (w * (h + 1)).toNat ≤ 20 ∧ (h * (w + 1)).toNat ≤ 20:=by
  obtain ⟨c1,c2,c3,c4⟩:=area_bounds g.w1 g.w4 g.h1 g.h4
  unfold figN
  omega
theorem rowA_len {w h:Int} (g:GridOK w h) (M:Nat):(rowA w h M).length ≤ 20:=Nat.le_trans (setL_len _ _) (figN_le g).2.1
theorem rowU_len {w h:Int} (g:GridOK w h) (M:Nat):(rowU w h M).length ≤ 20:=Nat.le_trans (setL_len _ _) (figN_le g).2.2
theorem pow_figN {w h:Int} (g:GridOK w h) {M:Nat} (hM:M < 2 ^ figN w h):M < 2 ^ 60:=Nat.lt_of_lt_of_le hM (Nat.pow_le_pow_right (by omega) (by have:=(figN_le g).1; omega))
theorem figMask_figN {w h:Int} {a u:List Int} (hf:figB w h a u = true):figMask w h a u < 2 ^ figN w h:=by
  have g:=gridOK_of hf
  obtain ⟨c1,c2,c3,c4⟩:=area_bounds g.w1 g.w4 g.h1 g.h4
  unfold figB at hf
  simp only [Bool.and_eq_true] at hf
  obtain ⟨hg,-,-,hi1,hi2⟩:=hf
  apply Nat.lt_pow_two_of_testBit
  intro i hi
  unfold figN at hi
  unfold figMask
  rw [bitsFrom_test,bitsFrom_test,Nat.zero_testBit,Bool.false_or,Bool.or_eq_false_iff]
  constructor
  · rw [List.any_eq_false]
    intro x hx
    have hb:=inB_mem hi1 x hx
    simp
    omega
  · rw [List.any_eq_false]
    intro x hx
    have hb:=inB_mem hi2 x hx
    simp
    omega
theorem own_A {w h:Int} {a u:List Int} (hf:figB w h a u = true):a = rowA w h (figMask w h a u):=by
  have g:=gridOK_of hf
  obtain ⟨c1,c2,c3,c4⟩:=area_bounds g.w1 g.w4 g.h1 g.h4
  have hf0:=hf
  unfold figB at hf
  simp only [Bool.and_eq_true] at hf
  obtain ⟨hg,hr1,hr2,hi1,hi2⟩:=hf
  refine rising_setL (rising_pw hr1) (fun x hx => ?_) (fun i hi => ?_)
  · have hb:=inB_mem hi1 x hx
    omega
  · rw [figMask_level hf0 i (by omega),decide_eq_true_iff]
theorem own_U {w h:Int} {a u:List Int} (hf:figB w h a u = true):u = rowU w h (figMask w h a u):=by
  have g:=gridOK_of hf
  obtain ⟨c1,c2,c3,c4⟩:=area_bounds g.w1 g.w4 g.h1 g.h4
  have hf0:=hf
  unfold figB at hf
  simp only [Bool.and_eq_true] at hf
  obtain ⟨hg,hr1,hr2,hi1,hi2⟩:=hf
  refine rising_setL (rising_pw hr2) (fun x hx => ?_) (fun i hi => ?_)
  · have hb:=inB_mem hi2 x hx
    omega
  · rw [figMask_upright hf0 i,decide_eq_true_iff]
theorem rowA_in {w h:Int} {M i:Nat} (hi:i < (w * (h + 1)).toNat):(i:Int) ∈ rowA w h M ↔ M.testBit i = true:=by
  unfold rowA; rw [setL_in]; exact ⟨fun h => h.2,fun h => ⟨hi,h⟩⟩
theorem rowU_in {w h:Int} {M i:Nat} (hi:i < (h * (w + 1)).toNat):(i:Int) ∈ rowU w h M ↔ M.testBit ((w * (h + 1)).toNat + i) = true:=by
  unfold rowU; rw [setL_in]; exact ⟨fun h => h.2,fun h => ⟨hi,h⟩⟩
theorem rowA_b {w h:Int} {M:Nat}:∀ x ∈ rowA w h M,0 ≤ x ∧ x < ((w * (h + 1)).toNat:Int):=fun x hx => by
  unfold rowA at hx
  rw [setL_mem] at hx
  obtain ⟨i,rfl,hi,-⟩:=hx
  omega
theorem rowU_b {w h:Int} {M:Nat}:∀ x ∈ rowU w h M,0 ≤ x ∧ x < ((h * (w + 1)).toNat:Int):=fun x hx => by
  unfold rowU at hx
  rw [setL_mem] at hx
  obtain ⟨i,rfl,hi,-⟩:=hx
  omega


theorem levels_f {w h:Int} (g:GridOK w h):impl_grid_levels.f w h = some (((w * (h + 1)).toNat:Nat):Int):=by
  obtain ⟨c1,c2,c3,c4⟩:=area_bounds g.w1 g.w4 g.h1 g.h4
  have w1:=g.w1
  have w4:=g.w4
  have h1:=g.h1
  have h4:=g.h4
  have e1:wrap64 (h + 1) = h + 1:=by unfold wrap64; omega
  have e2:wrap64 (w * (h + 1)) = (((w * (h + 1)).toNat:Nat):Int):=by unfold wrap64; omega
  unfold impl_grid_levels.f
  rw [e1,e2]
theorem listed_setL {s:Nat} (hs:s < 2 ^ 60):impl_set_listed.f (s:Int) = some (setL 64 fun i => s.testBit i):=by
  unfold impl_set_listed.f
  have h2:(2:Nat) ^ 60 = 1152921504606846976:=by decide
  rw [if_pos ⟨Int.natCast_nonneg _,by omega⟩,Int.toNat_natCast]
  rfl
theorem figure_f {w h:Int} (g:GridOK w h) {M:Nat} (hM:M < 2 ^ figN w h):impl_grid_figure.f w h (M:Int) = some (w,h,rowA w h M,rowU w h M):=by
  have hM60:=pow_figN g hM
  obtain ⟨b1,b2,b3⟩:=figN_le g
  unfold impl_grid_figure.f
  rw [levels_f g,Option.bind_some,if_pos (Int.natCast_nonneg _),shl_u64 _ (by omega)]
  unfold rowA rowU
  unfold figN at hM
  generalize (w * (h + 1)).toNat = A at *
  generalize (h * (w + 1)).toNat = U at *
  have hp:=Nat.two_pow_pos A
  have hA:2 ^ A < 2 ^ 60:=pow_lt60 (by omega)
  have hA2:2 ^ A - 1 < 2 ^ 60:=by omega
  have e1:IntKind.u64.wrap (((2 ^ A:Nat):Int) - 1) = ((2 ^ A - 1:Nat):Int):=by
    have:((2 ^ A:Nat):Int) - 1 = ((2 ^ A - 1:Nat):Int):=by omega
    rw [this]
    exact u64_small _ (Int.natCast_nonneg _) (by
      have h2:(2:Nat) ^ 60 = 1152921504606846976:=by decide
      have h3:(2:Int) ^ 60 = 1152921504606846976:=by decide
      rw [h3]; omega)
  have e2:shr .u64 (M:Int) (A:Int) = ((M >>> A:Nat):Int):=by
    unfold shr
    rw [Int.toNat_natCast,Nat.min_eq_left (show A ≤ IntKind.u64.bits by have:IntKind.u64.bits = 64:=rfl; omega),Nat.shiftRight_eq_div_pow]
    exact_mod_cast rfl
  have hs:M >>> A < 2 ^ 60:=Nat.lt_of_le_of_lt (by rw [Nat.shiftRight_eq_div_pow]; exact Nat.div_le_self _ _) hM60
  rw [e1,and_u64 _ _ hM60 hA2,listed_setL (Nat.lt_of_le_of_lt Nat.and_le_left hM60),Option.bind_some,Option.bind_some,if_pos (Int.natCast_nonneg _),e2,listed_setL hs,Option.bind_some]
  have r1:setL 64 (fun i => (M &&& (2 ^ A - 1)).testBit i) = setL A fun i => M.testBit i:=setL_eq fun i => by
    rw [Nat.testBit_and,Nat.testBit_two_pow_sub_one]
    by_cases hi:i < A
    · simp [hi]; omega
    · simp [hi]
  have r2:setL 64 (fun i => (M >>> A).testBit i) = setL U fun i => M.testBit (A + i):=setL_eq fun i => by
    rw [Nat.testBit_shiftRight]
    constructor
    · rintro ⟨h1,h2⟩
      refine ⟨?_,h2⟩
      rcases Nat.lt_or_ge i U with h3 | h3
      · exact h3
      · rw [Nat.testBit_lt_two_pow (Nat.lt_of_lt_of_le hM (Nat.pow_le_pow_right (by omega) (by omega)))] at h2
        cases h2
    · rintro ⟨h1,h2⟩; exact ⟨by omega,h2⟩
  rw [r1,r2]


theorem spec_liUsed_loop {w h:Int} {a u:List Int} (g:GridOK w h) (hf:figB w h a u = true) (ha:a.length ≤ 1000000) (hu:u.length ≤ 1000000) (cs:List S103) (hcs:∀ c ∈ cs,inC w h c.f0 c.f1) (hL:cs.length ≤ 100) :
    ∀ (d k i:Nat) (acc:List S103),cs.length - i = d → i ≤ cs.length → acc.length ≤ i → d + 1000020 < k → spec_liUsed.l0 k acc cs (cs.length:Int) (i:Int) w h a u = some ((acc ++ (cs.drop i).filter fun c => decide (0 < meetE w h (figMask w h a u) c.f0 c.f1))):=by
  intro d
  induction d with
  | zero =>
    intro k i acc h1 h3 h5 h4
    obtain ⟨k,rfl⟩:∃ m,k = m + 1:=⟨k - 1,by omega⟩
    simp only [spec_liUsed.l0]
    rw [if_neg (by omega),List.drop_of_length_le (by omega),List.filter_nil,List.append_nil]
  | succ d ih =>
    intro k i acc h1 h3 h5 h4
    obtain ⟨k,rfl⟩:∃ m,k = m + 1:=⟨k - 1,by omega⟩
    have e2:wrap64 ((i:Int) + 1) = ((i + 1:Nat):Int):=by unfold wrap64; omega
    have hi:i < cs.length:=by omega
    simp only [spec_liUsed.l0]
    rw [if_pos (by omega),if_pos (by omega),if_pos (by omega),rd36_nat cs i hi,liMeet_f g hf ha hu k (by omega) _ _ (hcs _ (List.getElem_mem hi)),Option.bind_some,e2,List.drop_eq_getElem_cons hi,List.filter_cons]
    by_cases hn:meetE w h (figMask w h a u) cs[i].f0 cs[i].f1 > 0
    · rw [if_pos hn,if_pos (by omega),ih k (i + 1) _ (by omega) (by omega) (by rw [List.length_append]; simp; omega) (by omega),if_pos (by simpa using hn),List.append_assoc]
      rfl
    · rw [if_neg hn,ih k (i + 1) _ (by omega) (by omega) (by omega) (by omega),if_neg (by simpa using hn)]


def diffN (s g:Nat):Nat:=s ^^^ (s &&& g)
theorem diffN_test (s g i:Nat):(diffN s g).testBit i = (s.testBit i && !g.testBit i):=by
  unfold diffN; rw [Nat.testBit_xor,Nat.testBit_and]; cases s.testBit i <;> cases g.testBit i <;> rfl
theorem diffN_lt {s:Nat} (g:Nat) {n:Nat} (h:s < 2 ^ n):diffN s g < 2 ^ n:=Nat.xor_lt_two_pow h (Nat.lt_of_le_of_lt Nat.and_le_left h)
theorem andNot_u64 (s g:Nat) (hs:s < 2 ^ 60) (hg:g < 2 ^ 60):bits .andNot .u64 (s:Int) (g:Int) = ((diffN s g:Nat):Int):=by
  have h1:(BitVec.ofInt 64 (s:Int)).toNat = s:=by
    rw [BitVec.ofInt_natCast,BitVec.toNat_ofNat]; exact Nat.mod_eq_of_lt (by omega)
  have h2:(BitVec.ofInt 64 (g:Int)).toNat = g:=by
    rw [BitVec.ofInt_natCast,BitVec.toNat_ofNat]; exact Nat.mod_eq_of_lt (by omega)
  have h3:s &&& (2 ^ 64 - (g + 1)) = diffN s g:=by
    apply Nat.eq_of_testBit_eq
    intro i
    rw [Nat.testBit_and,Nat.testBit_two_pow_sub_succ (by omega),diffN_test]
    rcases Nat.lt_or_ge i 64 with h | h
    · simp [h]
    · rw [Nat.testBit_lt_two_pow (Nat.lt_of_lt_of_le hs (Nat.pow_le_pow_right (by omega) (by omega)))]; simp
  have hd:=diffN_lt g hs
  show IntKind.u64.wrap ((BitVec.ofInt 64 (s:Int) &&& ~~~ BitVec.ofInt 64 (g:Int)).toNat:Int) = _
  rw [BitVec.toNat_and,BitVec.toNat_not,h1,h2,show 2 ^ 64 - 1 - g = 2 ^ 64 - (g + 1) by omega,h3]
  exact u64_small _ (Int.natCast_nonneg _) (by exact_mod_cast hd)

theorem figB_rows {w h:Int} (g:GridOK w h) (M:Nat):figB w h (rowA w h M) (rowU w h M) = true:=by
 obtain ⟨c1,c2,c3,c4⟩:=area_bounds g.w1 g.w4 g.h1 g.h4
 have w1:=g.w1
 have w4:=g.w4
 have h1:=g.h1
 have h4:=g.h4
 unfold figB
 simp only [Bool.and_eq_true,decide_eq_true_eq]
 refine ⟨⟨⟨⟨w1,w4⟩,h1⟩,h4⟩,pw_rising (setL_pw _ _),pw_rising (setL_pw _ _),?_,?_⟩
 ·unfold inB
  rw [List.all_eq_true]
  intro x hx
  have:=rowA_b x hx
  simp only [Bool.and_eq_true,decide_eq_true_eq]
  omega
 ·unfold inB
  rw [List.all_eq_true]
  intro x hx
  have:=rowU_b x hx
  simp only [Bool.and_eq_true,decide_eq_true_eq]
  omega
theorem figMask_rows {w h:Int} (g:GridOK w h) {M:Nat} (hM:M < 2 ^ figN w h):figMask w h (rowA w h M) (rowU w h M) = M:=by
 have hf:=figB_rows g M
 obtain ⟨c1,c2,c3,c4⟩:=area_bounds g.w1 g.w4 g.h1 g.h4
 have hm:=figMask_figN hf
 apply Nat.eq_of_testBit_eq
 intro i
 rcases Nat.lt_or_ge i (w * (h + 1)).toNat with hi | hi
 ·rw [figMask_level hf i (by omega)]
  rw [Bool.eq_iff_iff,decide_eq_true_iff]
  exact rowA_in hi
 ·rcases Nat.lt_or_ge i (figN w h) with hi2 | hi2
  ·obtain ⟨j,rfl⟩:∃ j,i = (w * (h + 1)).toNat + j:=⟨i - (w * (h + 1)).toNat,by omega⟩
   rw [figMask_upright hf j]
   rw [Bool.eq_iff_iff,decide_eq_true_iff]
   exact rowU_in (by unfold figN at hi2; omega)
  ·rw [Nat.testBit_lt_two_pow (Nat.lt_of_lt_of_le hm (Nat.pow_le_pow_right (by omega) hi2)),Nat.testBit_lt_two_pow (Nat.lt_of_lt_of_le hM (Nat.pow_le_pow_right (by omega) hi2))]
theorem ins_ok {l:List Int} {x:Int} {i:Nat} (hp:l.Pairwise (· < ·)) (h1:∀ y ∈ l.take i,y < x) (h2:∀ y ∈ l.drop i,x < y):(l.take i ++ [x] ++ l.drop i).Pairwise (· < ·) ∧ (∀ y,y ∈ l.take i ++ [x] ++ l.drop i ↔ y ∈ l ∨ y = x) ∧ (l.take i ++ [x] ++ l.drop i).length ≤ l.length + 1:=by
 have hp2:=hp
 rw [← List.take_append_drop i l,List.pairwise_append] at hp2
 obtain ⟨p1,p2,p3⟩:=hp2
 refine ⟨?_,fun y => ?_,?_⟩
 ·rw [List.pairwise_append,List.pairwise_append]
  refine ⟨⟨p1,List.pairwise_singleton _ _,fun a ha b hb => ?_⟩,p2,fun a ha b hb => ?_⟩
  ·rw [List.mem_singleton] at hb
   subst hb
   exact h1 a ha
  ·rw [List.mem_append,List.mem_singleton] at ha
   rcases ha with ha | rfl
   ·exact p3 a ha b hb
   ·exact h2 b hb
 ·rw [List.mem_append,List.mem_append,List.mem_singleton]
  have:y ∈ l ↔ y ∈ l.take i ∨ y ∈ l.drop i:=by rw [← List.mem_append,List.take_append_drop]
  rw [this]
  constructor
  ·rintro ((h | h) | h)
   ·exact .inl (.inl h)
   ·exact .inr h
   ·exact .inl (.inr h)
  ·rintro ((h | h) | h)
   ·exact .inl (.inl h)
   ·exact .inr h
   ·exact .inl (.inr h)
 ·rw [List.length_append,List.length_append,List.length_take,List.length_drop,List.length_singleton]
  omega
theorem l1Put_l0 (l:List Int) (x:Int) (hp:l.Pairwise (· < ·)) (hL:l.length ≤ 4000000):∀ (d k i:Nat),l.length - i = d → i ≤ l.length → d < k → (∀ y ∈ l.take i,y < x) → ∃ r,spec_l1Put.l0 k l x (i:Int) = some r ∧ r.Pairwise (· < ·) ∧ (∀ y,y ∈ r ↔ y ∈ l ∨ y = x) ∧ r.length ≤ l.length + 1:=by
 intro d
 induction d with
 | zero =>
  intro k i h1 h2 h3 h4
  obtain ⟨k,rfl⟩:∃ m,k = m + 1:=⟨k - 1,by omega⟩
  obtain rfl:i = l.length:=by omega
  refine ⟨_,?_,ins_ok hp h4 (fun y hy => by rw [List.drop_length] at hy; cases hy)⟩
  simp only [spec_l1Put.l0,Option.bind_some,Int.toNat_natCast,List.nil_append,List.length_nil]
  rw [if_neg (by omega),if_pos (by omega),if_pos (by omega),if_pos (by rw [List.length_take]; omega),if_pos (by rw [List.length_take]; omega),if_pos (by rw [List.length_append,List.length_take,List.length_drop,List.length_singleton]; omega)]
 | succ d ih =>
  intro k i h1 h2 h3 h4
  obtain ⟨k,rfl⟩:∃ m,k = m + 1:=⟨k - 1,by omega⟩
  have hi:i < l.length:=by omega
  have e2:wrap64 ((i:Int) + 1) = ((i + 1:Nat):Int):=by unfold wrap64; omega
  simp only [spec_l1Put.l0,Option.bind_some,Int.toNat_natCast,List.nil_append,List.length_nil]
  rw [if_pos (by omega),if_pos (by omega),rd_nat l i hi,e2]
  by_cases hlt:l[i] < x
  ·rw [if_pos hlt]
   refine ih k (i + 1) (by omega) (by omega) (by omega) (fun y hy => ?_)
   rw [List.take_succ_eq_append_getElem hi,List.mem_append,List.mem_singleton] at hy
   rcases hy with hy | rfl
   ·exact h4 y hy
   ·exact hlt
  ·rw [if_neg hlt]
   by_cases he:l[i] = x
   ·rw [if_pos he]
    refine ⟨l,rfl,hp,fun y => ⟨fun h => .inl h,?_⟩,by omega⟩
    rintro (h | rfl)
    ·exact h
    ·rw [← he]; exact List.getElem_mem hi
   ·have hd:∀ y ∈ l.drop i,x < y:=fun y hy => by
     rw [List.drop_eq_getElem_cons hi] at hy
     have hp2:=hp
     rw [← List.take_append_drop i l,List.pairwise_append] at hp2
     have p2:=hp2.2.1
     rw [List.drop_eq_getElem_cons hi,List.pairwise_cons] at p2
     rcases List.mem_cons.1 hy with rfl | hy
     ·omega
     ·have:=p2.1 y hy; omega
    refine ⟨_,?_,ins_ok hp h4 hd⟩
    rw [if_neg he,if_pos (by omega),if_pos (by rw [List.length_take]; omega),if_pos (by rw [List.length_take]; omega),if_pos (by rw [List.length_append,List.length_take,List.length_drop,List.length_singleton]; omega)]
theorem l1Put_f (l:List Int) (x:Int) (hp:l.Pairwise (· < ·)) (hL:l.length ≤ 4000000) (k:Nat) (hk:l.length < k):∃ r,spec_l1Put.f k l x = some r ∧ r.Pairwise (· < ·) ∧ (∀ y,y ∈ r ↔ y ∈ l ∨ y = x) ∧ r.length ≤ l.length + 1:=by
 unfold spec_l1Put.f
 exact l1Put_l0 l x hp hL l.length k 0 (by omega) (by omega) hk (fun y hy => by rw [List.take_zero] at hy; cases hy)
theorem fiOwn_f (w h:Int) (a u:List Int) (ha:a.length ≤ 4000000) (hu:u.length ≤ 4000000):spec_fiOwn.f w h a u = some (w,h,a,u):=by
 unfold spec_fiOwn.f spec_l1Own.f
 simp only [Option.bind_some,List.nil_append,List.length_nil]
 rw [if_pos (by omega),if_pos (by omega),Option.bind_some,Option.bind_some]
theorem fiEdge_level {w h:Int} (g:GridOK w h) (a u:List Int) (x y:Int):spec_fiEdge.f w h a u false x y = some (wrap64 (wrap64 (y * w) + x),(decide (0 ≤ x) && decide (x ≤ w - 1)) && (decide (0 ≤ y) && decide (y ≤ h))):=by
 have w1:=g.w1
 have w4:=g.w4
 have e0:wrap64 (w - 1) = w - 1:=by unfold wrap64; omega
 unfold spec_fiEdge.f
 rw [if_neg (by decide),l1In_f,Option.bind_some,e0,l1In_f,Option.bind_some]
 cases (decide (0 ≤ x) && decide (x ≤ w - 1)) <;> simp
theorem fiEdge_upright {w h:Int} (g:GridOK w h) (a u:List Int) (x y:Int):spec_fiEdge.f w h a u true x y = some (wrap64 (wrap64 (y * wrap64 (w + 1)) + x),(decide (0 ≤ x) && decide (x ≤ w)) && (decide (0 ≤ y) && decide (y ≤ h - 1))):=by
 have h1:=g.h1
 have h4:=g.h4
 have e0:wrap64 (h - 1) = h - 1:=by unfold wrap64; omega
 unfold spec_fiEdge.f
 rw [if_pos rfl,l1In_f,Option.bind_some,e0,l1In_f,Option.bind_some]
 cases (decide (0 ≤ x) && decide (x ≤ w)) <;> simp
theorem rowA_mem {w h:Int} {M:Nat} (x:Int):x ∈ rowA w h M ↔ ∃ i:Nat,(i:Int) = x ∧ i < (w * (h + 1)).toNat ∧ M.testBit i = true:=setL_mem _ _ _
theorem rowU_mem {w h:Int} {M:Nat} (x:Int):x ∈ rowU w h M ↔ ∃ i:Nat,(i:Int) = x ∧ i < (h * (w + 1)).toNat ∧ M.testBit ((w * (h + 1)).toNat + i) = true:=setL_mem _ _ _
theorem or_bit (M e i:Nat):(M ||| 2 ^ e).testBit i = (M.testBit i || decide (e = i)):=by rw [Nat.testBit_or,Nat.testBit_two_pow]
theorem or_have {M e:Nat} (h:M.testBit e = true):M ||| 2 ^ e = M:=by
 apply Nat.eq_of_testBit_eq
 intro i
 rw [or_bit]
 by_cases hi:e = i
 ·subst hi; simp [h]
 ·simp [hi]
theorem level_lt {w h x y:Int} (g:GridOK w h) (hx0:0 ≤ x) (hx1:x ≤ w - 1) (hy0:0 ≤ y) (hy1:y ≤ h):0 ≤ y * w + x ∧ y * w + x < w * (h + 1) ∧ wrap64 (wrap64 (y * w) + x) = y * w + x:=by
 have w1:=g.w1
 have w4:=g.w4
 have h1:=g.h1
 have h4:=g.h4
 obtain ⟨p1,p2⟩:=prod_b (w:=w) (y:=y) w1 (by omega) hy0 (by omega)
 refine ⟨by omega,?_,?_⟩
 ·have c1:y = 0 ∨ y = 1 ∨ y = 2 ∨ y = 3 ∨ y = 4:=by omega
  have c2:h = 1 ∨ h = 2 ∨ h = 3 ∨ h = 4:=by omega
  rcases c2 with rfl | rfl | rfl | rfl <;> rcases c1 with rfl | rfl | rfl | rfl | rfl <;> omega
 ·have e1:wrap64 (y * w) = y * w:=by unfold wrap64; omega
  rw [e1]; unfold wrap64; omega
theorem upright_lt {w h x y:Int} (g:GridOK w h) (hx0:0 ≤ x) (hx1:x ≤ w) (hy0:0 ≤ y) (hy1:y ≤ h - 1):0 ≤ y * (w + 1) + x ∧ y * (w + 1) + x < h * (w + 1) ∧ wrap64 (wrap64 (y * wrap64 (w + 1)) + x) = y * (w + 1) + x:=by
 have w1:=g.w1
 have w4:=g.w4
 have h1:=g.h1
 have h4:=g.h4
 obtain ⟨p1,p2⟩:=prod_b (w:=w + 1) (y:=y) (by omega) (by omega) hy0 (by omega)
 have e3:wrap64 (w + 1) = w + 1:=by unfold wrap64; omega
 refine ⟨by omega,?_,?_⟩
 ·have c1:y = 0 ∨ y = 1 ∨ y = 2 ∨ y = 3:=by omega
  have c2:h = 1 ∨ h = 2 ∨ h = 3 ∨ h = 4:=by omega
  clear p1 p2 e3
  rcases c2 with rfl | rfl | rfl | rfl <;> rcases c1 with rfl | rfl | rfl | rfl <;> omega
 ·rw [e3]
  have e1:wrap64 (y * (w + 1)) = y * (w + 1):=by unfold wrap64; omega
  rw [e1]; unfold wrap64; omega
theorem fiPut_level {w h:Int} (g:GridOK w h) {M:Nat} (hM:M < 2 ^ figN w h) (k:Nat) (hk:1000000 < k) (x y:Int) (hx0:0 ≤ x) (hx1:x ≤ w - 1) (hy0:0 ≤ y) (hy1:y ≤ h) :
  spec_fiPut.f k w h (rowA w h M) (rowU w h M) false x y = some (w,h,rowA w h (M ||| 2 ^ (y * w + x).toNat),rowU w h (M ||| 2 ^ (y * w + x).toNat)):=by
 have lA:=rowA_len g M
 have lU:=rowU_len g M
 obtain ⟨l0,l1,l2⟩:=level_lt g hx0 hx1 hy0 hy1
 unfold spec_fiPut.f
 rw [fiOwn_f w h _ _ (by omega) (by omega),Option.bind_some,fiEdge_level g,Option.bind_some,fiHas_level g (figB_rows g M) (by omega) k hk x y hx0 (by omega) hy0 hy1,Option.bind_some,figMask_rows g hM,l2]
 obtain ⟨e,he⟩:=Int.eq_ofNat_of_zero_le l0
 rw [he,Int.toNat_natCast]
 have hU:rowU w h (M ||| 2 ^ e) = rowU w h M:=setL_congr fun i hi => by rw [or_bit,decide_eq_false (by omega),Bool.or_false]
 cases hb:M.testBit e with
 | true => rw [if_pos rfl,or_have hb]
 | false =>
  obtain ⟨r,hr,hrp,hrm,-⟩:=l1Put_f (rowA w h M) (e:Int) (setL_pw _ _) (by omega) k (by omega)
  have hre:r = rowA w h (M ||| 2 ^ e):=rising_ext hrp (setL_pw _ _) fun z => by
   rw [hrm]
   constructor
   ·rintro (h1 | rfl)
    ·rw [rowA_mem] at h1 ⊢
     obtain ⟨i,hi,h2,h3⟩:=h1
     exact ⟨i,hi,h2,by rw [or_bit,h3]; rfl⟩
    ·rw [rowA_mem]
     exact ⟨e,rfl,by omega,by rw [or_bit]; simp⟩
   ·intro h1
    rw [rowA_mem] at h1
    obtain ⟨i,hi,h2,h3⟩:=h1
    rw [or_bit,Bool.or_eq_true,decide_eq_true_iff] at h3
    rcases h3 with h3 | h3
    ·exact .inl ((rowA_mem z).2 ⟨i,hi,h2,h3⟩)
    ·exact .inr (by rw [← hi,h3])
  rw [if_neg (by simp),if_neg (by simp),hr,Option.bind_some,hre,hU]
theorem fiPut_upright {w h:Int} (g:GridOK w h) {M:Nat} (hM:M < 2 ^ figN w h) (k:Nat) (hk:1000000 < k) (x y:Int) (hx0:0 ≤ x) (hx1:x ≤ w) (hy0:0 ≤ y) (hy1:y ≤ h - 1) :
  spec_fiPut.f k w h (rowA w h M) (rowU w h M) true x y = some (w,h,rowA w h (M ||| 2 ^ ((w * (h + 1)).toNat + (y * (w + 1) + x).toNat)),rowU w h (M ||| 2 ^ ((w * (h + 1)).toNat + (y * (w + 1) + x).toNat))):=by
 have lA:=rowA_len g M
 have lU:=rowU_len g M
 obtain ⟨l0,l1,l2⟩:=upright_lt g hx0 hx1 hy0 hy1
 unfold spec_fiPut.f
 rw [fiOwn_f w h _ _ (by omega) (by omega),Option.bind_some,fiEdge_upright g,Option.bind_some,fiHas_upright g (figB_rows g M) (by omega) k hk x y hx0 hx1 hy0 (by omega),Option.bind_some,figMask_rows g hM,l2]
 obtain ⟨e,he⟩:=Int.eq_ofNat_of_zero_le l0
 rw [he,Int.toNat_natCast]
 have hA:rowA w h (M ||| 2 ^ ((w * (h + 1)).toNat + e)) = rowA w h M:=setL_congr fun i hi => by rw [or_bit,decide_eq_false (by omega),Bool.or_false]
 cases hb:M.testBit ((w * (h + 1)).toNat + e) with
 | true => rw [if_pos rfl,or_have hb]
 | false =>
  obtain ⟨r,hr,hrp,hrm,-⟩:=l1Put_f (rowU w h M) (e:Int) (setL_pw _ _) (by omega) k (by omega)
  have hre:r = rowU w h (M ||| 2 ^ ((w * (h + 1)).toNat + e)):=rising_ext hrp (setL_pw _ _) fun z => by
   rw [hrm]
   constructor
   ·rintro (h1 | rfl)
    ·rw [rowU_mem] at h1 ⊢
     obtain ⟨i,hi,h2,h3⟩:=h1
     exact ⟨i,hi,h2,by rw [or_bit,h3]; rfl⟩
    ·rw [rowU_mem]
     exact ⟨e,rfl,by omega,by rw [or_bit]; simp⟩
   ·intro h1
    rw [rowU_mem] at h1
    obtain ⟨i,hi,h2,h3⟩:=h1
    rw [or_bit,Bool.or_eq_true,decide_eq_true_iff] at h3
    rcases h3 with h3 | h3
    ·exact .inl ((rowU_mem z).2 ⟨i,hi,h2,h3⟩)
    ·exact .inr (by rw [← hi]; omega)
  rw [if_neg (by simp),if_pos rfl,hr,Option.bind_some,hre,hA]
theorem fiThose_l0 (b l:List Int) (hb:b.length ≤ 4000000) (hL:l.length ≤ 4000000) (k0:Nat) (hk0:b.length < k0):∀ (d k i:Nat) (acc:List Int),l.length - i = d → i ≤ l.length → d + k0 < k → acc.length ≤ i →
  spec_fiThose.l0 k b false acc l (l.length:Int) (i:Int) = some (acc ++ (l.drop i).filter fun x => !decide (x ∈ b)):=by
 intro d
 induction d with
 | zero =>
  intro k i acc h1 h2 h3 h4
  obtain ⟨k,rfl⟩:∃ m,k = m + 1:=⟨k - 1,by omega⟩
  simp only [spec_fiThose.l0]
  rw [if_neg (by omega),List.drop_of_length_le (by omega),List.filter_nil,List.append_nil]
 | succ d ih =>
  intro k i acc h1 h2 h3 h4
  obtain ⟨k,rfl⟩:∃ m,k = m + 1:=⟨k - 1,by omega⟩
  have hi:i < l.length:=by omega
  have e2:wrap64 ((i:Int) + 1) = ((i + 1:Nat):Int):=by unfold wrap64; omega
  simp only [spec_fiThose.l0]
  rw [if_pos (by omega),if_pos (by omega),if_pos (by omega),rd_nat l i hi,l1Has_f b _ hb k (by omega),Option.bind_some,e2,List.drop_eq_getElem_cons hi]
  by_cases hm:l[i] ∈ b
  ·rw [decide_eq_true hm,if_neg (by simp),List.filter_cons_of_neg (by simp [hm])]
   exact ih k (i + 1) acc (by omega) (by omega) (by omega) (by omega)
  ·rw [decide_eq_false hm,if_pos (by simp),if_pos (by omega),ih k (i + 1) _ (by omega) (by omega) (by omega) (by simp; omega),List.filter_cons_of_pos (by simp [hm]),List.append_assoc]
   rfl
theorem fiThose_f (l b:List Int) (hb:b.length ≤ 1000000) (hL:l.length ≤ 1000000) (k:Nat) (hk:3000000 < k):spec_fiThose.f k l b false = some (l.filter fun x => !decide (x ∈ b)):=by
 unfold spec_fiThose.f
 have:=fiThose_l0 b l (by omega) (by omega) (b.length + 1) (by omega) l.length k 0 [] (by omega) (by omega) (by omega) (Nat.le_refl _)
 rw [List.drop_zero,List.nil_append] at this
 exact this
theorem fiLess_f {w h w2 h2:Int} (g:GridOK w h) {M N:Nat} (k:Nat) (hk:3000000 < k):spec_fiLess.f k w h (rowA w h M) (rowU w h M) w2 h2 (rowA w h N) (rowU w h N) = some (w,h,rowA w h (diffN M N),rowU w h (diffN M N)):=by
 have lA:=rowA_len g M
 have lU:=rowU_len g M
 have lA2:=rowA_len g N
 have lU2:=rowU_len g N
 unfold spec_fiLess.f
 rw [fiThose_f _ _ (by omega) (by omega) k hk,Option.bind_some,fiThose_f _ _ (by omega) (by omega) k hk,Option.bind_some]
 have eA:(rowA w h M).filter (fun x => !decide (x ∈ rowA w h N)) = rowA w h (diffN M N):=by
  show (setL _ _).filter _ = setL _ _
  rw [setL_filter]
  refine setL_congr fun i hi => ?_
  rw [diffN_test]
  congr 2
  rw [Bool.eq_iff_iff,decide_eq_true_iff]
  exact rowA_in hi
 have eU:(rowU w h M).filter (fun x => !decide (x ∈ rowU w h N)) = rowU w h (diffN M N):=by
  show (setL _ _).filter _ = setL _ _
  rw [setL_filter]
  refine setL_congr fun i hi => ?_
  rw [diffN_test]
  congr 2
  rw [Bool.eq_iff_iff,decide_eq_true_iff]
  exact rowU_in hi
 rw [eA,eU]


def nxC (c:S103) (d:Int):S103:=if d = 110 then ⟨c.f0,c.f1 - 1⟩ else if d = 101 then ⟨c.f0 + 1,c.f1⟩ else if d = 115 then ⟨c.f0,c.f1 + 1⟩ else ⟨c.f0 - 1,c.f1⟩
def four4 (d:Int):Prop:=d = 110 ∨ d = 101 ∨ d = 115 ∨ d = 119
def edC (w h:Int) (c:S103) (d:Int):Option Nat:=btwE w h c.f0 c.f1 d
inductive Reach (w h:Int) (m:Nat) (c:S103):S103 → Prop
 | refl:Reach w h m c c
 | step {p:S103} {d:Int} {e:Nat}:Reach w h m c p → four4 d → edC w h p d = some e → m.testBit e = true → Reach w h m c (nxC p d)
theorem grid_in {w h:Int} {c:S103} {d:Int} {e:Nat} (he:edC w h c d = some e):inC w h c.f0 c.f1:=by
 unfold edC btwE at he
 split at he
 ·assumption
 ·cases he
theorem next_in {w h:Int} {c:S103} {d:Int} {e:Nat} (hd:four4 d) (he:edC w h c d = some e):inC w h (nxC c d).f0 (nxC c d).f1:=by
 have hc:=grid_in he
 unfold edC btwE at he
 rw [if_pos hc] at he
 obtain ⟨⟨h1,h2⟩,h3,h4⟩:=hc
 unfold nxC inC
 rcases hd with rfl | rfl | rfl | rfl
 ·simp only [if_pos] at he ⊢
  split at he
  ·(try simp only); omega
  ·cases he
 ·simp only [if_pos,show ¬ (101:Int) = 110 by decide,if_neg,if_false] at he ⊢
  split at he
  ·(try simp only); omega
  ·cases he
 ·simp only [if_pos,show ¬ (115:Int) = 110 by decide,show ¬ (115:Int) = 101 by decide,if_false] at he ⊢
  split at he
  ·(try simp only); omega
  ·cases he
 ·simp only [show ¬ (119:Int) = 110 by decide,show ¬ (119:Int) = 101 by decide,show ¬ (119:Int) = 115 by decide,if_false] at he ⊢
  split at he
  ·(try simp only); omega
  ·cases he
theorem ed_place {w h:Int} {c:S103} {d:Int} {e:Nat} (hd:four4 d) (he:edC w h c d = some e) :
  (∃ x y:Int,0 ≤ x ∧ x < w ∧ 0 ≤ y ∧ y ≤ h ∧ e = (y * w + x).toNat ∧ ((c = ⟨x,y⟩ ∧ d = 101) ∨ (c = ⟨x + 1,y⟩ ∧ d = 119))) ∨
  (∃ x y:Int,0 ≤ x ∧ x ≤ w ∧ 0 ≤ y ∧ y < h ∧ e = (w * (h + 1)).toNat + (y * (w + 1) + x).toNat ∧ ((c = ⟨x,y⟩ ∧ d = 115) ∨ (c = ⟨x,y + 1⟩ ∧ d = 110))):=by
 have hc:=grid_in he
 unfold edC btwE at he
 rw [if_pos hc] at he
 obtain ⟨⟨h1,h2⟩,h3,h4⟩:=hc
 obtain ⟨x,y⟩:=c
 simp only at *
 rcases hd with rfl | rfl | rfl | rfl
 ·simp only [if_pos] at he
  split at he
  ·injection he with he
   exact .inr ⟨x,y - 1,h1,h2,by omega,by omega,he.symm,.inr ⟨by rw [show y - 1 + 1 = y by omega],rfl⟩⟩
  ·cases he
 ·simp only [if_pos,show ¬ (101:Int) = 110 by decide,if_false] at he
  split at he
  ·injection he with he
   exact .inl ⟨x,y,h1,by assumption,h3,h4,he.symm,.inl ⟨rfl,rfl⟩⟩
  ·cases he
 ·simp only [if_pos,show ¬ (115:Int) = 110 by decide,show ¬ (115:Int) = 101 by decide,if_false] at he
  split at he
  ·injection he with he
   exact .inr ⟨x,y,h1,h2,h3,by assumption,he.symm,.inl ⟨rfl,rfl⟩⟩
  ·cases he
 ·simp only [show ¬ (119:Int) = 110 by decide,show ¬ (119:Int) = 101 by decide,show ¬ (119:Int) = 115 by decide,if_false] at he
  split at he
  ·injection he with he
   exact .inl ⟨x - 1,y,by omega,by omega,h3,h4,he.symm,.inr ⟨by rw [show x - 1 + 1 = x by omega],rfl⟩⟩
  ·cases he
theorem lev_uniq {w x y x' y':Int} (hw:w = 1 ∨ w = 2 ∨ w = 3 ∨ w = 4 ∨ w = 5) (h1:0 ≤ x) (h2:x < w) (h3:0 ≤ y) (h1':0 ≤ x') (h2':x' < w) (h3':0 ≤ y') (he:(y * w + x).toNat = (y' * w + x').toNat):x = x' ∧ y = y':=by
 rcases hw with rfl | rfl | rfl | rfl | rfl <;> omega
theorem lev_lt {w h x y:Int} (hw:w = 1 ∨ w = 2 ∨ w = 3 ∨ w = 4 ∨ w = 5) (h2:x < w) (h3:0 ≤ y) (h4:y ≤ h) (h1:0 ≤ x):(y * w + x).toNat < (w * (h + 1)).toNat:=by
 rcases hw with rfl | rfl | rfl | rfl | rfl <;> omega
theorem ends_two {w h:Int} (g:GridOK w h) {p q:S103} {d d':Int} {e:Nat} (hd:four4 d) (hd':four4 d') (hp:edC w h p d = some e) (hq:edC w h q d' = some e):q = p ∨ q = nxC p d:=by
 have cw:=(grid_cases g).1
 have a1:¬ (119:Int) = 110:=by decide
 have a2:¬ (119:Int) = 101:=by decide
 have a3:¬ (119:Int) = 115:=by decide
 have a4:¬ (101:Int) = 110:=by decide
 have a5:¬ (115:Int) = 110:=by decide
 have a6:¬ (115:Int) = 101:=by decide
 rcases ed_place hd hp with ⟨x,y,h1,h2,h3,h4,h5,h6⟩ | ⟨x,y,h1,h2,h3,h4,h5,h6⟩ <;> rcases ed_place hd' hq with ⟨x',y',h1',h2',h3',h4',h5',h6'⟩ | ⟨x',y',h1',h2',h3',h4',h5',h6'⟩
 ·obtain ⟨rfl,rfl⟩:=lev_uniq (by omega) h1 h2 h3 h1' h2' h3' (h5.symm.trans h5')
  rcases h6 with ⟨rfl,rfl⟩ | ⟨rfl,rfl⟩ <;> rcases h6' with ⟨rfl,rfl⟩ | ⟨rfl,rfl⟩ <;> simp [nxC] <;> omega
 ·have:=lev_lt (h:=h) (by omega) h2 h3 h4 h1
  omega
 ·have:=lev_lt (h:=h) (by omega) h2' h3' h4' h1'
  omega
 ·obtain ⟨rfl,rfl⟩:=lev_uniq (w:=w + 1) (by omega) h1 (by omega) h3 h1' (by omega) h3' (by omega)
  rcases h6 with ⟨rfl,rfl⟩ | ⟨rfl,rfl⟩ <;> rcases h6' with ⟨rfl,rfl⟩ | ⟨rfl,rfl⟩ <;> simp [nxC] <;> omega
theorem ed_back {w h:Int} {p:S103} {d:Int} {e:Nat} (hd:four4 d) (hp:edC w h p d = some e):∃ d',four4 d' ∧ edC w h (nxC p d) d' = some e:=by
 have hn:=next_in hd hp
 have a1:¬ (119:Int) = 110:=by decide
 have a2:¬ (119:Int) = 101:=by decide
 have a3:¬ (119:Int) = 115:=by decide
 have a4:¬ (101:Int) = 110:=by decide
 have a5:¬ (115:Int) = 110:=by decide
 have a6:¬ (115:Int) = 101:=by decide
 have hp2:=grid_in hp
 rcases ed_place hd hp with ⟨x,y,h1,h2,h3,h4,h5,h6⟩ | ⟨x,y,h1,h2,h3,h4,h5,h6⟩
 ·rcases h6 with ⟨rfl,rfl⟩ | ⟨rfl,rfl⟩
  ·refine ⟨119,.inr (.inr (.inr rfl)),?_⟩
   unfold edC btwE
   rw [if_pos hn]
   simp only [nxC,a4,a1,a2,a3,if_false,if_true]
   rw [if_pos (by omega),h5]
   congr 2
   omega
  ·refine ⟨101,.inr (.inl rfl),?_⟩
   unfold edC btwE
   rw [if_pos hn]
   simp only [nxC,a4,a1,a2,a3,if_false,if_true]
   rw [if_pos (by omega),h5]
   congr 2
   omega
 ·rcases h6 with ⟨rfl,rfl⟩ | ⟨rfl,rfl⟩
  ·refine ⟨110,.inl rfl,?_⟩
   unfold edC btwE
   rw [if_pos hn]
   simp only [nxC,a5,a6,if_false,if_true]
   rw [if_pos (by omega),h5,show y + 1 - 1 = y by omega]
  ·refine ⟨115,.inr (.inr (.inl rfl)),?_⟩
   unfold edC btwE
   rw [if_pos hn]
   simp only [nxC,a5,a6,if_false,if_true]
   rw [if_pos (by omega),h5,show y + 1 - 1 = y by omega]
theorem ed_lt {w h:Int} (g:GridOK w h) {p:S103} {d:Int} {e:Nat} (hd:four4 d) (hp:edC w h p d = some e):e < figN w h:=by
 have cw:=(grid_cases g).1
 unfold figN
 rcases ed_place hd hp with ⟨x,y,h1,h2,h3,h4,h5,h6⟩ | ⟨x,y,h1,h2,h3,h4,h5,h6⟩
 ·have:=lev_lt (h:=h) (by omega) h2 h3 h4 h1
  omega
 ·have:=lev_lt (w:=w + 1) (h:=h - 1) (by omega) (by omega:x < w + 1) h3 (by omega) h1
  rw [show h - 1 + 1 = h by omega,Int.mul_comm (w + 1) h] at this
  omega
theorem reach_in {w h:Int} {m:Nat} {c p:S103} (hc:inC w h c.f0 c.f1) (hr:Reach w h m c p):inC w h p.f0 p.f1:=by
 cases hr with
 | refl => exact hc
 | step _ hd he _ => exact next_in hd he
def Inc (w h:Int) (m:Nat) (c:S103) (e:Nat):Prop:=m.testBit e = true ∧ ∃ p d,Reach w h m c p ∧ four4 d ∧ edC w h p d = some e
def maskOf (p:Nat → Bool):Nat → Nat
 | 0 => 0
 | n + 1 => if p n then maskOf p n ||| 2 ^ n else maskOf p n
theorem maskOf_test (p:Nat → Bool):∀ n i,(maskOf p n).testBit i = (decide (i < n) && p i)
 | 0,i => by simp [maskOf]
 | n + 1,i => by
  unfold maskOf
  by_cases hp:p n = true
  ·rw [if_pos hp,Nat.testBit_or,maskOf_test p n i,Nat.testBit_two_pow]
   by_cases hi:n = i
   ·subst hi; simp [hp]
   ·by_cases h2:i < n
    ·simp [h2,hi,show i < n + 1 by omega]
    ·simp [h2,hi,show ¬ i < n + 1 by omega]
  ·rw [if_neg hp,maskOf_test p n i]
   by_cases hi:n = i
   ·subst hi; simp [hp]
   ·by_cases h2:i < n
    ·simp [h2,show i < n + 1 by omega]
    ·simp [h2,show ¬ i < n + 1 by omega]
theorem maskOf_lt (p:Nat → Bool):∀ n,maskOf p n < 2 ^ n
 | 0 => by simp [maskOf]
 | n + 1 => by
  have ih:=maskOf_lt p n
  have h2:2 ^ n < 2 ^ (n + 1):=Nat.pow_lt_pow_right (by omega) (by omega)
  unfold maskOf
  split
  ·exact Nat.or_lt_two_pow (by omega) h2
  ·omega
noncomputable def partN (w h:Int) (m:Nat) (c:S103):Nat:=maskOf (fun e => @decide (Inc w h m c e) (Classical.propDecidable _)) (figN w h)
theorem partN_test {w h:Int} (g:GridOK w h) (m:Nat) (c:S103) (e:Nat):(partN w h m c).testBit e = true ↔ Inc w h m c e:=by
 unfold partN
 rw [maskOf_test,Bool.and_eq_true,decide_eq_true_iff,@decide_eq_true_iff _ (Classical.propDecidable _)]
 exact ⟨fun h => h.2,fun h => ⟨by obtain ⟨_,p,d,_,hd,he⟩:=h; exact ed_lt g hd he,h⟩⟩
theorem partN_lt (w h:Int) (m:Nat) (c:S103):partN w h m c < 2 ^ figN w h:=maskOf_lt _ _
theorem part_eq {w h:Int} (g:GridOK w h) {m F:Nat} {c:S103} (hF:∀ e,F.testBit e = true ↔ Inc w h m c e):F = partN w h m c:=by
 apply Nat.eq_of_testBit_eq
 intro e
 rw [Bool.eq_iff_iff,hF,partN_test g]
theorem nodup_lt:∀ (n:Nat) (l:List Nat),l.Nodup → (∀ x ∈ l,x < n) → l.length ≤ n
 | 0,l,_,hb => by
  cases l with
  | nil => simp
  | cons a t => exact absurd (hb a List.mem_cons_self) (by omega)
 | n + 1,l,hn,hb => by
  have h1:=nodup_lt n (l.filter fun x => decide (x < n)) (List.Pairwise.filter _ hn) (fun x hx => by simpa using (List.mem_filter.1 hx).2)
  have h2:(l.filter fun x => !decide (x < n)).length ≤ 1:=by
   have h3:∀ x ∈ l.filter fun x => !decide (x < n),x = n:=fun x hx => by
    have:=List.mem_filter.1 hx
    have h4:=hb x this.1
    have h5:¬ x < n:=by simpa using this.2
    omega
   have h4:(l.filter fun x => !decide (x < n)).Nodup:=List.Pairwise.filter _ hn
   generalize l.filter (fun x => !decide (x < n)) = q at h3 h4
   match q with
   | [] => simp
   | [a] => simp
   | a :: b :: t =>
    exfalso
    have e1:=h3 a List.mem_cons_self
    have e2:=h3 b (List.mem_cons_of_mem _ List.mem_cons_self)
    rw [e1,e2] at h4
    simp at h4
  have h3:l.length = (l.filter fun x => decide (x < n)).length + (l.filter fun x => !decide (x < n)).length:=by
   clear h1 h2 hn hb
   induction l with
   | nil => rfl
   | cons a t ih =>
    by_cases ha:a < n
    ·rw [List.filter_cons_of_pos (by simpa using ha),List.filter_cons_of_neg (by simpa using ha),List.length_cons,List.length_cons,ih]; omega
    ·rw [List.filter_cons_of_neg (by simpa using ha),List.filter_cons_of_pos (by simpa using ha),List.length_cons,List.length_cons,ih]; omega
  omega
structure FromInv (w h:Int) (m:Nat) (c:S103) (out:Nat) (L:List S103) (E:List Nat):Prop where
 reach:∀ p ∈ L,Reach w h m c p
 first:c ∈ L
 bits:∀ e,out.testBit e = true ↔ e ∈ E
 sub:∀ e ∈ E,m.testBit e = true ∧ ∃ p ∈ L,∃ d,four4 d ∧ edC w h p d = some e
 ends:∀ e ∈ E,∀ p d,four4 d → edC w h p d = some e → p ∈ L
 nod:E.Nodup
 len:L.length = E.length + 1
 small:out < 2 ^ figN w h
def Done (w h:Int) (m:Nat) (E:List Nat) (p:S103) (D:List Int):Prop:=∀ d ∈ D,∀ e,edC w h p d = some e → m.testBit e = true → e ∈ E
theorem FromInv.bound {w h:Int} (g:GridOK w h) {m:Nat} {c:S103} {out:Nat} {L:List S103} {E:List Nat} (I:FromInv w h m c out L E):L.length ≤ 41:=by
 have h1:=nodup_lt (figN w h) E I.nod (fun e he => by
  obtain ⟨_,p,_,d,hd,hp⟩:=I.sub e he
  exact ed_lt g hd hp)
 have h2:=(figN_le g).1
 have:=I.len
 omega
theorem FromInv.add {w h:Int} (g:GridOK w h) {m:Nat} {c:S103} {out:Nat} {L:List S103} {E:List Nat} (I:FromInv w h m c out L E) {p:S103} {d:Int} {e:Nat} (hp:p ∈ L) (hd:four4 d) (he:edC w h p d = some e) (hm:m.testBit e = true) (hn:e ∉ E):FromInv w h m c (out ||| 2 ^ e) (L ++ [nxC p d]) (e :: E) where
 reach:=fun q hq => by
  rcases List.mem_append.1 hq with hq | hq
  ·exact I.reach q hq
  ·rw [List.mem_singleton] at hq
   subst hq
   exact .step (I.reach p hp) hd he hm
 first:=List.mem_append_left _ I.first
 bits:=fun i => by
  rw [Nat.testBit_or,Nat.testBit_two_pow,Bool.or_eq_true,decide_eq_true_iff,I.bits,List.mem_cons]
  constructor
  ·rintro (h | h)
   ·exact .inr h
   ·exact .inl h.symm
  ·rintro (h | h)
   ·exact .inr h.symm
   ·exact .inl h
 sub:=fun i hi => by
  rcases List.mem_cons.1 hi with rfl | hi
  ·exact ⟨hm,p,List.mem_append_left _ hp,d,hd,he⟩
  ·obtain ⟨h1,q,hq,d',h2⟩:=I.sub i hi
   exact ⟨h1,q,List.mem_append_left _ hq,d',h2⟩
 ends:=fun i hi q d' hd' hq => by
  rcases List.mem_cons.1 hi with rfl | hi
  ·rcases ends_two g hd hd' he hq with rfl | rfl
   ·exact List.mem_append_left _ hp
   ·exact List.mem_append_right _ List.mem_cons_self
  ·exact List.mem_append_left _ (I.ends i hi q d' hd' hq)
 nod:=List.nodup_cons.2 ⟨hn,I.nod⟩
 len:=by rw [List.length_append,List.length_singleton,List.length_cons,I.len]
 small:=Nat.or_lt_two_pow I.small (Nat.pow_lt_pow_right (by omega) (ed_lt g hd he))
theorem Done.more {w h:Int} {m:Nat} {E E':List Nat} {p:S103} {D:List Int} (H:Done w h m E p D) (hE:∀ e ∈ E,e ∈ E'):Done w h m E' p D:=fun d hd e he hm => hE e (H d hd e he hm)
theorem FromInv.close {w h:Int} {m:Nat} {c:S103} {out:Nat} {L:List S103} {E:List Nat} (I:FromInv w h m c out L E) (H:∀ p ∈ L,Done w h m E p [110,101,115,119]):∀ e,out.testBit e = true ↔ Inc w h m c e:=by
 have d4:∀ d,four4 d → d ∈ ([110,101,115,119]:List Int):=fun d hd => by rcases hd with rfl | rfl | rfl | rfl <;> simp
 have hcl:∀ p,Reach w h m c p → p ∈ L:=fun p hr => by
  induction hr with
  | refl => exact I.first
  | step _ hd he hm ih =>
   obtain ⟨d',hd',he'⟩:=ed_back hd he
   exact I.ends _ (H _ ih _ (d4 _ hd) _ he hm) _ d' hd' he'
 intro e
 rw [I.bits]
 constructor
 ·intro he
  obtain ⟨h1,p,hp,d,hd,h2⟩:=I.sub e he
  exact ⟨h1,p,d,I.reach p hp,hd,h2⟩
 ·rintro ⟨h1,p,d,hr,hd,h2⟩
  exact H p (hcl p hr) d (d4 d hd) e h2 h1


theorem next4_f {w h:Int} {c:S103} {d:Int} {e:Nat} (g:GridOK w h) (hd:four4 d) (he:edC w h c d = some e):impl_Corner_next.f c.f0 c.f1 d = some ((nxC c d).f0,(nxC c d).f1):=by
 have hc:=grid_in he
 have w4:=g.w4
 have h4:=g.h4
 obtain ⟨⟨h1,h2⟩,h3,h5⟩:=hc
 unfold impl_Corner_next.f nxC
 have e1:wrap64 (c.f1 - 1) = c.f1 - 1:=by unfold wrap64; omega
 have e2:wrap64 (c.f0 + 1) = c.f0 + 1:=by unfold wrap64; omega
 have e3:wrap64 (c.f1 + 1) = c.f1 + 1:=by unfold wrap64; omega
 have e4:wrap64 (c.f0 - 1) = c.f0 - 1:=by unfold wrap64; omega
 rw [e1,e2,e3,e4]
 rcases hd with rfl | rfl | rfl | rfl <;> rfl
theorem maskE_new (o:Option Nat) (m out:Nat) (hm:m < 2 ^ 60) (ho:out < 2 ^ 60) (hl:∀ e,o = some e → e < 60) :
  (Go.bits .andNot .u64 (Go.bits .and .u64 ((maskE o:Nat):Int) (m:Int)) (out:Int) = 0) ↔ ¬ ∃ e,o = some e ∧ m.testBit e = true ∧ out.testBit e = false:=by
 cases o with
 | none =>
  rw [show maskE none = 0 from rfl,and_u64 0 m (by decide) hm,Nat.zero_and,andNot_u64 0 out (by decide) ho]
  exact ⟨fun _ ⟨e,h,_⟩ => (by cases h),fun _ => (by unfold diffN; simp)⟩
 | some e =>
  have he:=hl e rfl
  rw [show maskE (some e) = 2 ^ e from rfl,and_u64 _ m (pow_lt60 he) hm,and_two e m]
  by_cases hb:m.testBit e = true
  ·rw [if_pos hb,andNot_u64 _ out (pow_lt60 he) ho]
   constructor
   ·rintro hz ⟨e',h1,_,h3⟩
    injection h1 with h1
    subst h1
    have:(diffN (2 ^ e) out).testBit e = true:=by rw [diffN_test,Nat.testBit_two_pow,h3]; simp
    have h0:diffN (2 ^ e) out = 0:=by exact_mod_cast hz
    rw [h0] at this
    simp at this
   ·intro hn
    have h0:diffN (2 ^ e) out = 0:=by
     apply Nat.eq_of_testBit_eq
     intro i
     rw [diffN_test,Nat.testBit_two_pow,Nat.zero_testBit]
     by_cases hi:e = i
     ·subst hi
      cases ho2:out.testBit e with
      | true => simp
      | false => exact absurd ⟨e,rfl,hb,ho2⟩ hn
     ·simp [hi]
    rw [h0]; rfl
  ·rw [if_neg hb,andNot_u64 0 out (by decide) ho]
   exact ⟨fun _ ⟨e',h1,h2,_⟩ => (by injection h1 with h1; subst h1; exact hb h2),fun _ => (by unfold diffN; simp)⟩
def dirs4:List Int:=[110,101,115,119]
theorem dirs4_four:∀ d ∈ dirs4,four4 d:=fun d hd => by
 simp only [dirs4,List.mem_cons,List.not_mem_nil,or_false] at hd
 exact hd
theorem from_l1 {w h:Int} (g:GridOK w h) {m:Nat} (hm:m < 2 ^ figN w h) (c:S103):∀ (r f i j:Nat) (out:Nat) (L:List S103) (E:List Nat),4 - i = r → i ≤ 4 → 10 < f → FromInv w h m c out L E → (hj:j < L.length) → Done w h m E L[j] (dirs4.take i) →
  ∃ (out':Nat) (L':List S103) (E':List Nat),impl_grid_from.l1 (f + r + 1) (m:Int) (out:Int) L (j:Int) dirs4 (dirs4.length:Int) (i:Int) w h = impl_grid_from.l0 f (m:Int) (out':Int) L' (wrap64 ((j:Int) + 1)) w h ∧ FromInv w h m c out' L' E' ∧ (∀ e ∈ E,e ∈ E') ∧ (∃ M,L' = L ++ M) ∧ Done w h m E' L[j] dirs4:=by
 have HMM:=Aside0.mk hm
 clear hm
 intro r
 induction r with
 | zero =>
  intro f i j out L E h1 h2 hf I hj D
  obtain rfl:i = 4:=by omega
  refine ⟨out,L,E,?_,I,fun e he => he,⟨[],by simp⟩,D⟩
  rw [impl_grid_from.l1,if_neg (by simp [dirs4])]
 | succ r ih =>
  intro f i j out L E h1 h2 hf I hj D
  have hi:i < dirs4.length:=by show i < 4; omega
  have hL:=I.bound g
  have hrd:rd dirs4 (i:Int) = dirs4[i]:=by unfold rd; rw [Int.toNat_natCast,List.getD_eq_getElem?_getD,List.getElem?_eq_getElem hi]; rfl
  have hd:=dirs4_four dirs4[i] (List.getElem_mem hi)
  have HM6:=Aside0.mk (pow_figN g HMM.out)
  have HO6:=Aside0.mk (pow_figN g I.small)
  have hw:wrap64 ((i:Int) + 1) = ((i + 1:Nat):Int):=by unfold wrap64; omega
  have htk:dirs4.take (i + 1) = dirs4.take i ++ [dirs4[i]]:=List.take_succ_eq_append_getElem hi
  have hlt:(i:Int) < (dirs4.length:Int):=by omega
  have hjz:(j:Int) < (L.length:Int):=by omega
  have hbl:∀ e,btwE w h L[j].f0 L[j].f1 dirs4[i] = some e → e < 60:=fun e he => btwE_lt g e he
  have hcr:rd_T103 L (j:Int) = L[j]:=by unfold rd_T103; rw [Int.toNat_natCast,List.getD_eq_getElem?_getD,List.getElem?_eq_getElem hj]; rfl
  have hnw:=maskE_new (btwE w h L[j].f0 L[j].f1 dirs4[i]) m out HM6.out HO6.out hbl
  by_cases hn:∃ e,btwE w h L[j].f0 L[j].f1 dirs4[i] = some e ∧ m.testBit e = true ∧ out.testBit e = false
  ·obtain ⟨e,he,hme,hoe⟩:=hn
   have hnE:e ∉ E:=fun hE => by rw [(I.bits e).2 hE] at hoe; cases hoe
   have I2:=I.add g (List.getElem_mem hj) hd he hme hnE
   have hj2:j < (L ++ [nxC L[j] dirs4[i]]).length:=by rw [List.length_append]; omega
   have hjj:(L ++ [nxC L[j] dirs4[i]])[j] = L[j]:=List.getElem_append_left hj
   obtain ⟨out',L',E',q1,q2,q3,⟨M,q4⟩,q5⟩:=ih f (i + 1) j (out ||| 2 ^ e) (L ++ [nxC L[j] dirs4[i]]) (e :: E) (by omega) (by omega) hf I2 hj2 (by
    rw [hjj,htk]
    intro d hd' e' he' hm'
    rcases List.mem_append.1 hd' with hd' | hd'
    ·exact List.mem_cons_of_mem _ (D d hd' e' he' hm')
    ·rw [List.mem_singleton] at hd'
     subst hd'
     have h9:some e' = some e:=he'.symm.trans he
     injection h9 with h9
     rw [h9]; exact List.mem_cons_self)
   rw [hjj] at q5
   refine ⟨out',L',E',?_,q2,fun x hx => q3 x (List.mem_cons_of_mem _ hx),⟨[nxC L[j] dirs4[i]] ++ M,by rw [q4,List.append_assoc]⟩,q5⟩
   rw [← q1,show f + (r + 1) + 1 = (f + r + 1) + 1 by omega,impl_grid_from.l1]
   rw [if_pos hlt,if_pos (Int.natCast_nonneg _),if_pos hlt,if_pos (Int.natCast_nonneg _),if_pos hjz,hcr,hrd,between_f g hd _ (by omega),Option.bind_some]
   rw [if_neg (fun hz => (hnw.1 hz) ⟨e,he,hme,hoe⟩),next4_f g hd he,Option.bind_some,if_pos (by omega),hw]
   have hE:btwE w h L[j].f0 L[j].f1 dirs4[i] = some e:=he
   rw [hE,show maskE (some e) = 2 ^ e from rfl,or_u64 out (2 ^ e) HO6.out (pow_lt60 (hbl e hE))]
  ·obtain ⟨out',L',E',q1,q2,q3,q4,q5⟩:=ih f (i + 1) j out L E (by omega) (by omega) hf I hj (by
    rw [htk]
    intro d hd' e' he' hm'
    rcases List.mem_append.1 hd' with hd' | hd'
    ·exact D d hd' e' he' hm'
    ·rw [List.mem_singleton] at hd'
     subst hd'
     rw [← I.bits]
     cases ho2:out.testBit e' with
     | true => rfl
     | false => exact absurd ⟨e',he',hm',ho2⟩ hn)
   refine ⟨out',L',E',?_,q2,q3,q4,q5⟩
   rw [← q1,show f + (r + 1) + 1 = (f + r + 1) + 1 by omega,impl_grid_from.l1]
   rw [if_pos hlt,if_pos (Int.natCast_nonneg _),if_pos hlt,if_pos (Int.natCast_nonneg _),if_pos hjz,hcr,hrd,between_f g hd _ (by omega),Option.bind_some]
   rw [if_pos (hnw.2 hn),hw]
theorem from_l0 {w h:Int} (g:GridOK w h) {m:Nat} (hm:m < 2 ^ figN w h) (c:S103):∀ (r f j:Nat) (out:Nat) (L:List S103) (E:List Nat),42 - j = r → j ≤ L.length → r * 6 + 20 < f → FromInv w h m c out L E → (∀ (i:Nat) (hi:i < L.length),i < j → Done w h m E L[i] dirs4) →
  ∃ F:Nat,impl_grid_from.l0 f (m:Int) (out:Int) L (j:Int) w h = some (F:Int) ∧ (∀ e,F.testBit e = true ↔ Inc w h m c e):=by
 have HMM:=Aside0.mk hm
 clear hm
 intro r
 induction r with
 | zero =>
  intro f j out L E h1 h2 hf I D
  have hL:=I.bound g
  omega
 | succ r ih =>
  intro f j out L E h1 h2 hf I D
  have hL:=I.bound g
  obtain ⟨f,rfl⟩:∃ z,f = z + 4 + 1 + 1:=⟨f - 6,by omega⟩
  by_cases hj:j < L.length
  ·obtain ⟨out',L',E',q1,q2,q3,⟨M,q4⟩,q5⟩:=from_l1 g HMM.out c 4 f 0 j out L E (by omega) (by omega) (by omega) I hj (fun d hd => by simp at hd)
   rw [impl_grid_from.l0,if_pos (by omega),Option.bind_some]
   have q1':impl_grid_from.l1 (f + 4 + 1) (m:Int) (out:Int) L (j:Int) dirs4 (dirs4.length:Int) 0 w h = impl_grid_from.l0 f (m:Int) (out':Int) L' (wrap64 ((j:Int) + 1)) w h:=q1
   have e4:impl_grid_from.l1 (f + 4 + 1) (m:Int) (out:Int) L (j:Int) ([110,101,115,119]:List Int) ((([110,101,115,119]:List Int)).length:Int) 0 w h = impl_grid_from.l0 f (m:Int) (out':Int) L' (wrap64 ((j:Int) + 1)) w h:=q1'
   rw [e4,show wrap64 ((j:Int) + 1) = ((j + 1:Nat):Int) from by unfold wrap64; omega]
   refine ih f (j + 1) out' L' E' (by omega) (by rw [q4,List.length_append]; omega) (by omega) q2 (fun i hi hij => ?_)
   have hiL:i < L.length:=by omega
   have hgi:L'[i] = L[i]:=by
    subst q4
    exact List.getElem_append_left hiL
   rw [hgi]
   by_cases hij2:i = j
   ·subst hij2
    exact q5
   ·exact (D i hiL (by omega)).more q3
  ·refine ⟨out,?_,I.close (fun p hp => ?_)⟩
   ·rw [impl_grid_from.l0,if_neg (by omega)]
   ·obtain ⟨i,hi,rfl⟩:=List.mem_iff_getElem.1 hp
    exact D i hi (by omega)
theorem from_f {w h:Int} (g:GridOK w h) {m:Nat} (hm:m < 2 ^ figN w h) (c:S103) (k:Nat) (hk:300 < k):impl_grid_from.f k w h (m:Int) c.f0 c.f1 = some ((partN w h m c:Nat):Int):=by
 have I0:FromInv w h m c 0 [c] []:=⟨fun p hp => (by rw [List.mem_singleton] at hp; subst hp; exact .refl),List.mem_cons_self,fun e => (by simp),fun e he => (by cases he),fun e he => (by cases he),List.nodup_nil,rfl,Nat.two_pow_pos _⟩
 obtain ⟨F,h1,h2⟩:=from_l0 g hm c 42 k 0 0 [c] [] (by omega) (by simp) (by omega) I0 (fun i hi h => absurd h (by omega))
 unfold impl_grid_from.f
 rw [← part_eq g h2]
 exact h1


def prC (c:S103):Int × Int:=(c.f0,c.f1)
theorem prC_inj {c d:S103} (h:prC c = prC d):c = d:=by
 cases c; cases d
 unfold prC at h
 simp only [Prod.mk.injEq] at h
 rw [h.1,h.2]
theorem has36_l0 (l:List S103) (x y:Int) (hl:l.length ≤ 1000):∀ (d k i:Nat),l.length - i = d → i ≤ l.length → d < k → spec_liHas.l0 k l (l.length:Int) (i:Int) x y = some (decide ((x,y) ∈ (l.drop i).map prC)):=by
 intro d
 induction d with
 | zero =>
  intro k i h1 h2 h3
  obtain ⟨k,rfl⟩:∃ q,k = q + 1:=⟨k - 1,by omega⟩
  simp only [spec_liHas.l0]
  rw [if_neg (by omega),List.drop_of_length_le (by omega)]
  rfl
 | succ d ih =>
  intro k i h1 h2 h3
  obtain ⟨k,rfl⟩:∃ q,k = q + 1:=⟨k - 1,by omega⟩
  have hi:i < l.length:=by omega
  have e1:wrap64 ((i:Int) + 1) = ((i + 1:Nat):Int):=by unfold wrap64; omega
  simp only [spec_liHas.l0]
  rw [if_pos (by omega),if_pos (by omega),if_pos (by omega),rd36_nat l i hi,e1,ih k (i + 1) (by omega) (by omega) (by omega),List.drop_eq_getElem_cons hi,List.map_cons]
  by_cases hq:(l[i].f0 == x && (l[i].f1 == y)) = true
  ·rw [if_pos hq]
   rw [Bool.and_eq_true,beq_iff_eq,beq_iff_eq] at hq
   have:(x,y) = prC l[i]:=by unfold prC; rw [hq.1,hq.2]
   rw [this]
   simp
  ·rw [if_neg hq]
   have:¬ (x,y) = prC l[i]:=fun h => hq (by
    unfold prC at h
    rw [Prod.mk.injEq] at h
    rw [← h.1,← h.2]; simp)
   congr 1
   rw [decide_eq_decide,List.mem_cons]
   exact ⟨fun h => .inr h,fun h => h.resolve_left this⟩
theorem has36_f (l:List S103) (c:S103) (hl:l.length ≤ 1000) (k:Nat) (hk:l.length < k):(spec_liHas.f k l c.f0 c.f1 = some true ∧ c ∈ l) ∨ (spec_liHas.f k l c.f0 c.f1 = some false ∧ c ∉ l):=by
 unfold spec_liHas.f
 have h:=has36_l0 l c.f0 c.f1 hl l.length k 0 (by omega) (by omega) hk
 rw [List.drop_zero] at h
 have e0:((0:Nat):Int) = 0:=rfl
 rw [e0] at h
 rw [h]
 have key:(c.f0,c.f1) ∈ l.map prC ↔ c ∈ l:=by
  constructor
  ·intro hm
   obtain ⟨d,hd,he⟩:=List.mem_map.1 hm
   rw [← prC_inj (show prC d = prC c from he)]
   exact hd
  ·intro hm
   exact List.mem_map_of_mem (f:=prC) hm
 by_cases hc:c ∈ l
 ·exact .inl ⟨by rw [decide_eq_true (key.2 hc)],hc⟩
 ·exact .inr ⟨by rw [decide_eq_false (fun h => hc (key.1 h))],hc⟩
theorem stepB_iff {w h:Int} {m:Nat} {c:S103} {d:Int}:stepB w h m c.f0 c.f1 d = true ↔ ∃ e,edC w h c d = some e ∧ m.testBit e = true:=by
 unfold stepB edC
 cases btwE w h c.f0 c.f1 d with
 | none => exact ⟨fun h => (by cases h),fun ⟨e,h,_⟩ => (by cases h)⟩
 | some e => exact ⟨fun h => ⟨e,rfl,h⟩,fun ⟨e',h,h2⟩ => by injection h with h; rw [h]; exact h2⟩
theorem liNext4 {w h:Int} (g:GridOK w h) {m:Nat} (hm:m < 2 ^ figN w h) (k:Nat) (hk:1000000 < k) (c:S103) (hc:inC w h c.f0 c.f1) (i:Nat) (hi:i < dirs4.length) :
  spec_liNext.f k w h (rowA w h m) (rowU w h m) c.f0 c.f1 (i:Int) = some ((nxC c dirs4[i]).f0,(nxC c dirs4[i]).f1,stepB w h m c.f0 c.f1 dirs4[i]):=by
 have lA:=rowA_len g m
 have lU:=rowU_len g m
 obtain ⟨h0,h1,h2,h3⟩:=liNext_f g (figB_rows g m) (by omega) (by omega) k hk c.f0 c.f1 hc
 rw [figMask_rows g hm] at h0 h1 h2 h3
 have hi4:i < 4:=hi
 rcases (show i = 0 ∨ i = 1 ∨ i = 2 ∨ i = 3 by omega) with rfl | rfl | rfl | rfl
 ·exact h0
 ·exact h1
 ·exact h2
 ·exact h3
def numC (c:S103):Nat:=(c.f1 * 5 + c.f0).toNat
theorem numC_inj {w h:Int} (g:GridOK w h) {c d:S103} (hc:inC w h c.f0 c.f1) (hd:inC w h d.f0 d.f1) (he:numC c = numC d):c = d:=by
 have w4:=g.w4
 have h4:=g.h4
 obtain ⟨⟨a1,a2⟩,a3,a4⟩:=hc
 obtain ⟨⟨b1,b2⟩,b3,b4⟩:=hd
 unfold numC at he
 cases c; cases d
 simp only at *
 congr 1 <;> omega
structure RchInv (w h:Int) (m:Nat) (c:S103) (L:List S103):Prop where
 reach:∀ p ∈ L,Reach w h m c p
 first:c ∈ L
 nod:(L.map numC).Nodup
theorem RchInv.bound {w h:Int} (g:GridOK w h) {m:Nat} {c:S103} (hc:inC w h c.f0 c.f1) {L:List S103} (I:RchInv w h m c L):L.length ≤ 25:=by
 have h1:=nodup_lt 25 (L.map numC) I.nod (fun x hx => by
  obtain ⟨p,hp,rfl⟩:=List.mem_map.1 hx
  have w4:=g.w4
  have h4:=g.h4
  obtain ⟨⟨a1,a2⟩,a3,a4⟩:=reach_in hc (I.reach p hp)
  unfold numC
  omega)
 rw [List.length_map] at h1
 exact h1
theorem RchInv.add {w h:Int} (g:GridOK w h) {m:Nat} {c:S103} (hc:inC w h c.f0 c.f1) {L:List S103} (I:RchInv w h m c L) {p:S103} {d:Int} (hp:p ∈ L) (hd:four4 d) (hs:stepB w h m p.f0 p.f1 d = true) (hn:nxC p d ∉ L):RchInv w h m c (L ++ [nxC p d]):=by
 obtain ⟨e,he,hm⟩:=stepB_iff.1 hs
 have hr:=Reach.step (I.reach p hp) hd he hm
 refine ⟨fun q hq => ?_,List.mem_append_left _ I.first,?_⟩
 ·rcases List.mem_append.1 hq with hq | hq
  ·exact I.reach q hq
  ·rw [List.mem_singleton] at hq
   subst hq
   exact hr
 ·rw [List.map_append,List.map_cons,List.map_nil,List.nodup_append]
  refine ⟨I.nod,by simp,fun x hx y hy => ?_⟩
  rw [List.mem_singleton] at hy
  subst hy
  rintro rfl
  obtain ⟨q,hq,he2⟩:=List.mem_map.1 hx
  apply hn
  rw [← numC_inj g (reach_in hc (I.reach q hq)) (reach_in hc hr) he2]
  exact hq
def Gone (w h:Int) (m:Nat) (L:List S103) (p:S103) (D:List Int):Prop:=∀ d ∈ D,stepB w h m p.f0 p.f1 d = true → nxC p d ∈ L
theorem reach_l1 {w h:Int} (g:GridOK w h) {m:Nat} (hm:m < 2 ^ figN w h) (c:S103) (hc:inC w h c.f0 c.f1):∀ (r f i j:Nat) (L:List S103),4 - i = r → i ≤ 4 → 1000100 < f → RchInv w h m c L → (hj:j < L.length) → Gone w h m L L[j] (dirs4.take i) →
  ∃ (L':List S103),spec_liReach.l1 (f + r + 1) L (j:Int) (i:Int) w h (rowA w h m) (rowU w h m) = spec_liReach.l0 f L' (wrap64 ((j:Int) + 1)) w h (rowA w h m) (rowU w h m) ∧ RchInv w h m c L' ∧ (∃ M,L' = L ++ M) ∧ Gone w h m L' L[j] dirs4:=by
 have HMM:=Aside0.mk hm
 clear hm
 intro r
 induction r with
 | zero =>
  intro f i j L h1 h2 hf I hj D
  obtain rfl:i = 4:=by omega
  refine ⟨L,?_,I,⟨[],by simp⟩,D⟩
  rw [spec_liReach.l1,if_neg (by omega)]
 | succ r ih =>
  intro f i j L h1 h2 hf I hj D
  have hi:i < dirs4.length:=by show i < 4; omega
  have hL:=I.bound g hc
  have hd:=dirs4_four dirs4[i] (List.getElem_mem hi)
  have hw:wrap64 ((i:Int) + 1) = ((i + 1:Nat):Int):=by unfold wrap64; omega
  have htk:dirs4.take (i + 1) = dirs4.take i ++ [dirs4[i]]:=List.take_succ_eq_append_getElem hi
  have hi4:(i:Int) < 4:=by omega
  have hjz:(j:Int) < (L.length:Int):=by omega
  have hpc:=reach_in hc (I.reach L[j] (List.getElem_mem hj))
  have hnx:=liNext4 g HMM.out (f + r + 1) (by omega) L[j] hpc i hi
  rw [show f + (r + 1) + 1 = (f + r + 1) + 1 by omega,spec_liReach.l1,if_pos hi4,if_pos (Int.natCast_nonneg _),if_pos hjz,rd36_nat L j hj,hnx,Option.bind_some,hw]
  dsimp only
  cases hs:stepB w h m L[j].f0 L[j].f1 dirs4[i] with
  | false =>
   rw [if_neg (by simp)]
   exact ih f (i + 1) j L (by omega) (by omega) hf I hj (by
    rw [htk]
    intro d hd' hs'
    rcases List.mem_append.1 hd' with hd' | hd'
    ·exact D d hd' hs'
    ·rw [List.mem_singleton] at hd'
     subst hd'
     rw [hs] at hs'
     cases hs')
  | true =>
   rw [if_pos rfl]
   rcases has36_f L (nxC L[j] dirs4[i]) (by omega) (f + r + 1) (by omega) with ⟨q1,q2⟩ | ⟨q1,q2⟩
   ·rw [q1,Option.bind_some,if_pos rfl]
    exact ih f (i + 1) j L (by omega) (by omega) hf I hj (by
     rw [htk]
     intro d hd' hs'
     rcases List.mem_append.1 hd' with hd' | hd'
     ·exact D d hd' hs'
     ·rw [List.mem_singleton] at hd'
      subst hd'
      exact q2)
   ·rw [q1,Option.bind_some,if_neg (by simp),if_pos (by omega)]
    have I2:=I.add g hc (List.getElem_mem hj) hd hs q2
    have hjj:(L ++ [nxC L[j] dirs4[i]])[j]'(by rw [List.length_append]; omega) = L[j]:=List.getElem_append_left hj
    obtain ⟨L',e1,e2,⟨M,e3⟩,e4⟩:=ih f (i + 1) j (L ++ [nxC L[j] dirs4[i]]) (by omega) (by omega) hf I2 (by rw [List.length_append]; omega) (by
     rw [hjj,htk]
     intro d hd' hs'
     rcases List.mem_append.1 hd' with hd' | hd'
     ·exact List.mem_append_left _ (D d hd' hs')
     ·rw [List.mem_singleton] at hd'
      subst hd'
      exact List.mem_append_right _ List.mem_cons_self)
    rw [hjj] at e4
    exact ⟨L',e1,e2,⟨[nxC L[j] dirs4[i]] ++ M,by rw [e3,List.append_assoc]⟩,e4⟩
theorem reach_l0 {w h:Int} (g:GridOK w h) {m:Nat} (hm:m < 2 ^ figN w h) (c:S103) (hc:inC w h c.f0 c.f1):∀ (r f j:Nat) (L:List S103),26 - j = r → j ≤ L.length → r * 6 + 1000200 < f → RchInv w h m c L → (∀ (i:Nat) (hi:i < L.length),i < j → Gone w h m L L[i] dirs4) →
  ∃ L',spec_liReach.l0 f L (j:Int) w h (rowA w h m) (rowU w h m) = some L' ∧ RchInv w h m c L' ∧ ∀ p,Reach w h m c p → p ∈ L':=by
 have HMM:=Aside0.mk hm
 clear hm
 intro r
 induction r with
 | zero =>
  intro f j L h1 h2 hf I D
  have hL:=I.bound g hc
  omega
 | succ r ih =>
  intro f j L h1 h2 hf I D
  have hL:=I.bound g hc
  obtain ⟨f,rfl⟩:∃ z,f = z + 4 + 1 + 1:=⟨f - 6,by omega⟩
  by_cases hj:j < L.length
  ·obtain ⟨L',q1,q2,⟨M,q4⟩,q5⟩:=reach_l1 g HMM.out c hc 4 f 0 j L (by omega) (by omega) (by omega) I hj (fun d hd => by simp at hd)
   have e0:((0:Nat):Int) = 0:=rfl
   rw [e0] at q1
   rw [spec_liReach.l0,if_pos (by omega),q1,show wrap64 ((j:Int) + 1) = ((j + 1:Nat):Int) from by unfold wrap64; omega]
   refine ih f (j + 1) L' (by omega) (by rw [q4,List.length_append]; omega) (by omega) q2 (fun i hi hij => ?_)
   have hiL:i < L.length:=by omega
   have hgi:L'[i] = L[i]:=by
    subst q4
    exact List.getElem_append_left hiL
   rw [hgi]
   by_cases hij2:i = j
   ·subst hij2
    exact q5
   ·intro d hd hs
    rw [q4]
    exact List.mem_append_left _ (D i hiL (by omega) d hd hs)
  ·refine ⟨L,?_,I,fun p hp => ?_⟩
   ·rw [spec_liReach.l0,if_neg (by omega)]
   ·induction hp with
    | refl => exact I.first
    | step _ hd he hme ih2 =>
     obtain ⟨i,hi,hgi⟩:=List.mem_iff_getElem.1 ih2
     have hD:=D i hi (by omega)
     rw [hgi] at hD
     exact hD _ (by rcases hd with rfl | rfl | rfl | rfl <;> simp [dirs4]) (stepB_iff.2 ⟨_,he,hme⟩)
theorem part_l0 {w h:Int} (g:GridOK w h) {m:Nat} (hm:m < 2 ^ figN w h) (L:List S103) (hL:L.length ≤ 1000) (hin:∀ p ∈ L,inC w h p.f0 p.f1):∀ (r f i:Nat) (N:Nat),L.length - i = r → i ≤ L.length → 2 * r + 1000100 < f → N < 2 ^ figN w h →
  ∃ N',spec_liPart.l0 f L (L.length:Int) (i:Int) w h (rowA w h m) (rowU w h m) w h (rowA w h N) (rowU w h N) = some (w,h,rowA w h N',rowU w h N') ∧ (∀ e,N'.testBit e = true ↔ N.testBit e = true ∨ (m.testBit e = true ∧ ∃ p ∈ L.drop i,edC w h p 101 = some e ∨ edC w h p 115 = some e)):=by
 have HMM:=Aside0.mk hm
 clear hm
 intro r
 induction r with
 | zero =>
  intro f i N h1 h2 hf hN
  clear hN
  obtain ⟨f,rfl⟩:∃ z,f = z + 1:=⟨f - 1,by omega⟩
  refine ⟨N,?_,fun e => ?_⟩
  ·rw [spec_liPart.l0,if_neg (by omega)]
  ·rw [List.drop_of_length_le (by omega)]
   constructor
   ·exact .inl
   ·rintro (h | ⟨_,p,hp,_⟩)
    ·exact h
    ·cases hp
 | succ r ih =>
  intro f i N h1 h2 hf hN
  have HN:=Aside0.mk hN
  clear hN
  obtain ⟨f,rfl⟩:∃ z,f = z + 1 + 1:=⟨f - 2,by omega⟩
  have hi:i < L.length:=by omega
  have hiz:(i:Int) < (L.length:Int):=by omega
  have hp:=hin L[i] (List.getElem_mem hi)
  have hw:wrap64 ((i:Int) + 1) = ((i + 1:Nat):Int):=by unfold wrap64; omega
  have hn1:=liNext4 g HMM.out (f + 1) (by omega) L[i] hp 1 (by decide)
  have hn2:=liNext4 g HMM.out f (by omega) L[i] hp 2 (by decide)
  have d1:dirs4[1]'(by decide) = 101:=rfl
  have d2:dirs4[2]'(by decide) = 115:=rfl
  rw [d1] at hn1
  rw [d2] at hn2
  have e1:((1:Nat):Int) = 1:=rfl
  have e2:((2:Nat):Int) = 2:=rfl
  rw [e1] at hn1
  rw [e2] at hn2
  rw [List.drop_eq_getElem_cons hi] at *
  -- the level edge
  obtain ⟨N1,q1,q2,q3⟩:∃ N1,spec_liPart.l0 (f + 1 + 1) L (L.length:Int) (i:Int) w h (rowA w h m) (rowU w h m) w h (rowA w h N) (rowU w h N) = spec_liPart.j1 (f + 1) L (L.length:Int) (i:Int) w h (rowA w h m) (rowU w h m) w h (rowA w h N1) (rowU w h N1) L[i].f0 L[i].f1 ∧ N1 < 2 ^ figN w h ∧ (∀ e,N1.testBit e = true ↔ N.testBit e = true ∨ (m.testBit e = true ∧ edC w h L[i] 101 = some e)):=by
   rw [spec_liPart.l0,if_pos hiz,if_pos (Int.natCast_nonneg _),if_pos hiz,rd36_nat L i hi,hn1,Option.bind_some]
   dsimp only
   cases hs:stepB w h m L[i].f0 L[i].f1 101 with
   | false =>
    refine ⟨N,by rw [if_neg (by simp)],HN.out,fun e => ⟨.inl,?_⟩⟩
    rintro (h | ⟨a,b⟩)
    ·exact h
    ·have:=stepB_iff.2 ⟨e,b,a⟩
     rw [hs] at this
     cases this
   | true =>
    obtain ⟨e,he,hme⟩:=stepB_iff.1 hs
    have hpl:0 ≤ L[i].f0 ∧ L[i].f0 ≤ w - 1 ∧ 0 ≤ L[i].f1 ∧ L[i].f1 ≤ h ∧ e = (L[i].f1 * w + L[i].f0).toNat:=by
     have he':=he
     unfold edC btwE at he'
     rw [if_pos hp,if_neg (by decide),if_pos rfl] at he'
     obtain ⟨⟨a1,a2⟩,a3,a4⟩:=hp
     split at he'
     ·injection he' with he'
      exact ⟨a1,by omega,a3,a4,he'.symm⟩
     ·cases he'
    obtain ⟨b1,b2,b3,b4,rfl⟩:=hpl
    refine ⟨N ||| 2 ^ (L[i].f1 * w + L[i].f0).toNat,?_,Nat.or_lt_two_pow HN.out (Nat.pow_lt_pow_right (by omega) (ed_lt g (.inr (.inl rfl)) he)),fun e' => ?_⟩
    ·rw [if_pos rfl,fiPut_level g HN.out (f + 1) (by omega) L[i].f0 L[i].f1 b1 b2 b3 b4,Option.bind_some]
    ·rw [or_bit,Bool.or_eq_true,decide_eq_true_iff]
     constructor
     ·rintro (h | rfl)
      ·exact .inl h
      ·exact .inr ⟨hme,he⟩
     ·rintro (h | ⟨_,hb⟩)
      ·exact .inl h
      ·rw [he] at hb
       injection hb with hb
       exact .inr hb
  obtain ⟨N2,r1,r2,r3⟩:∃ N2,spec_liPart.j1 (f + 1) L (L.length:Int) (i:Int) w h (rowA w h m) (rowU w h m) w h (rowA w h N1) (rowU w h N1) L[i].f0 L[i].f1 = spec_liPart.l0 f L (L.length:Int) ((i + 1:Nat):Int) w h (rowA w h m) (rowU w h m) w h (rowA w h N2) (rowU w h N2) ∧ N2 < 2 ^ figN w h ∧ (∀ e,N2.testBit e = true ↔ N1.testBit e = true ∨ (m.testBit e = true ∧ edC w h L[i] 115 = some e)):=by
   rw [spec_liPart.j1,hn2,Option.bind_some]
   dsimp only
   cases hs:stepB w h m L[i].f0 L[i].f1 115 with
   | false =>
    refine ⟨N1,by rw [if_neg (by simp),hw],q2,fun e => ⟨.inl,?_⟩⟩
    rintro (h | ⟨a,b⟩)
    ·exact h
    ·have:=stepB_iff.2 ⟨e,b,a⟩
     rw [hs] at this
     cases this
   | true =>
    obtain ⟨e,he,hme⟩:=stepB_iff.1 hs
    have hpl:0 ≤ L[i].f0 ∧ L[i].f0 ≤ w ∧ 0 ≤ L[i].f1 ∧ L[i].f1 ≤ h - 1 ∧ e = (w * (h + 1)).toNat + (L[i].f1 * (w + 1) + L[i].f0).toNat:=by
     have he':=he
     unfold edC btwE at he'
     rw [if_pos hp,if_neg (by decide),if_neg (by decide),if_pos rfl] at he'
     obtain ⟨⟨a1,a2⟩,a3,a4⟩:=hp
     split at he'
     ·injection he' with he'
      exact ⟨a1,a2,a3,by omega,he'.symm⟩
     ·cases he'
    obtain ⟨b1,b2,b3,b4,rfl⟩:=hpl
    refine ⟨N1 ||| 2 ^ ((w * (h + 1)).toNat + (L[i].f1 * (w + 1) + L[i].f0).toNat),?_,Nat.or_lt_two_pow q2 (Nat.pow_lt_pow_right (by omega) (ed_lt g (.inr (.inr (.inl rfl))) he)),fun e' => ?_⟩
    ·rw [if_pos rfl,fiPut_upright g q2 f (by omega) L[i].f0 L[i].f1 b1 b2 b3 b4,Option.bind_some,hw]
    ·rw [or_bit,Bool.or_eq_true,decide_eq_true_iff]
     constructor
     ·rintro (h | rfl)
      ·exact .inl h
      ·exact .inr ⟨hme,he⟩
     ·rintro (h | ⟨_,hb⟩)
      ·exact .inl h
      ·rw [he] at hb
       injection hb with hb
       exact .inr hb
  have R2:=Aside0.mk r2
  clear r2 q2
  obtain ⟨N',s1,s2⟩:=ih f (i + 1) N2 (by omega) (by omega) (by omega) R2.out
  refine ⟨N',by rw [q1,r1,s1],fun e => ?_⟩
  rw [s2,r3,q3]
  constructor
  ·rintro (((h | ⟨h1,h2⟩) | ⟨h1,h2⟩) | ⟨h1,p,hp,h2⟩)
   ·exact .inl h
   ·exact .inr ⟨h1,L[i],List.mem_cons_self,.inl h2⟩
   ·exact .inr ⟨h1,L[i],List.mem_cons_self,.inr h2⟩
   ·exact .inr ⟨h1,p,List.mem_cons_of_mem _ hp,h2⟩
  ·rintro (h | ⟨h1,p,hp,h2⟩)
   ·exact .inl (.inl (.inl h))
   ·rcases List.mem_cons.1 hp with rfl | hp
    ·rcases h2 with h2 | h2
     ·exact .inl (.inl (.inr ⟨h1,h2⟩))
     ·exact .inl (.inr ⟨h1,h2⟩)
    ·exact .inr ⟨h1,p,hp,h2⟩
theorem liPart_f {w h:Int} (g:GridOK w h) {m:Nat} (hm:m < 2 ^ figN w h) (c:S103) (hc:inC w h c.f0 c.f1) (k:Nat) (hk:1001000 < k):spec_liPart.f k w h (rowA w h m) (rowU w h m) c.f0 c.f1 = some (w,h,rowA w h (partN w h m c),rowU w h (partN w h m c)):=by
 have I0:RchInv w h m c [c]:=⟨fun p hp => (by rw [List.mem_singleton] at hp; subst hp; exact .refl),List.mem_cons_self,by simp⟩
 obtain ⟨L,h1,I,hcl⟩:=reach_l0 g hm c hc 26 k 0 [c] (by omega) (by simp) (by omega) I0 (fun i hi h => absurd h (by omega))
 have hL:=I.bound g hc
 obtain ⟨N',s1,s2⟩:=part_l0 g hm L (by omega) (fun p hp => reach_in hc (I.reach p hp)) L.length k 0 0 (by omega) (by omega) (by omega) (Nat.two_pow_pos _)
 have hz:rowA w h 0 = [] ∧ rowU w h 0 = []:=by
  constructor
  ·unfold rowA setL; simp
  ·unfold rowU setL; simp
 have e0:((0:Nat):Int) = 0:=rfl
 rw [hz.1,hz.2,e0] at s1
 have hN:N' = partN w h m c:=by
  apply part_eq g
  intro e
  rw [s2,List.drop_zero]
  constructor
  ·rintro (h | ⟨h2,p,hp,h3⟩)
   ·simp at h
   ·rcases h3 with h3 | h3
    ·exact ⟨h2,p,101,I.reach p hp,.inr (.inl rfl),h3⟩
    ·exact ⟨h2,p,115,I.reach p hp,.inr (.inr (.inl rfl)),h3⟩
  ·rintro ⟨h2,p,d,hr,hd,he⟩
   refine .inr ⟨h2,?_⟩
   rcases ed_place hd he with ⟨x,y,a1,a2,a3,a4,a5,a6⟩ | ⟨x,y,a1,a2,a3,a4,a5,a6⟩
   ·refine ⟨⟨x,y⟩,?_,.inl ?_⟩
    ·rcases a6 with ⟨rfl,rfl⟩ | ⟨rfl,rfl⟩
     ·exact hcl _ hr
     ·have:=hcl _ (Reach.step hr (.inr (.inr (.inr rfl))) he h2)
      have e9:nxC (⟨x + 1,y⟩:S103) 119 = ⟨x,y⟩:=by simp [nxC] <;> omega
      rw [e9] at this
      exact this
    ·unfold edC btwE
     rw [if_pos (show inC w h x y from ⟨⟨a1,by omega⟩,a3,a4⟩),if_neg (by decide),if_pos rfl,if_pos a2,a5]
   ·refine ⟨⟨x,y⟩,?_,.inr ?_⟩
    ·rcases a6 with ⟨rfl,rfl⟩ | ⟨rfl,rfl⟩
     ·exact hcl _ hr
     ·have:=hcl _ (Reach.step hr (.inl rfl) he h2)
      have e9:nxC (⟨x,y + 1⟩:S103) 110 = ⟨x,y⟩:=by simp [nxC] <;> omega
      rw [e9] at this
      exact this
    ·unfold edC btwE
     rw [if_pos (show inC w h x y from ⟨⟨a1,a2⟩,a3,by omega⟩),if_neg (by decide),if_neg (by decide),if_pos rfl,if_pos a4,a5]
 unfold spec_liPart.f spec_liReach.f
 have h1':spec_liReach.l0 k ([(⟨c.f0,c.f1⟩:S103)]:List S103) 0 w h (rowA w h m) (rowU w h m) = some L:=h1
 rw [h1',Option.bind_some,s1,hN]


def UsedC (w h:Int) (m:Nat) (c:S103):Prop:=∃ d e,four4 d ∧ edC w h c d = some e ∧ m.testBit e = true
theorem meet_pos {w h:Int} {m:Nat} (c:S103):0 < meetE w h m c.f0 c.f1 ↔ UsedC w h m c:=by
 have b:=bitE_01 m
 have key:∀ d,bitE m (btwE w h c.f0 c.f1 d) = 1 ↔ ∃ e,edC w h c d = some e ∧ m.testBit e = true:=fun d => by
  rw [bitE_step,← stepB_iff]
  cases stepB w h m c.f0 c.f1 d <;> simp
 have k1:=key 110
 have k2:=key 101
 have k3:=key 115
 have k4:=key 119
 have b1:=b (btwE w h c.f0 c.f1 110)
 have b2:=b (btwE w h c.f0 c.f1 101)
 have b3:=b (btwE w h c.f0 c.f1 115)
 have b4:=b (btwE w h c.f0 c.f1 119)
 unfold meetE UsedC
 constructor
 ·intro hp
  by_cases h1:bitE m (btwE w h c.f0 c.f1 110) = 1
  ·obtain ⟨e,he⟩:=k1.1 h1
   exact ⟨110,e,.inl rfl,he⟩
  ·by_cases h2:bitE m (btwE w h c.f0 c.f1 101) = 1
   ·obtain ⟨e,he⟩:=k2.1 h2
    exact ⟨101,e,.inr (.inl rfl),he⟩
   ·by_cases h3:bitE m (btwE w h c.f0 c.f1 115) = 1
    ·obtain ⟨e,he⟩:=k3.1 h3
     exact ⟨115,e,.inr (.inr (.inl rfl)),he⟩
    ·obtain ⟨e,he⟩:=k4.1 (by omega)
     exact ⟨119,e,.inr (.inr (.inr rfl)),he⟩
 ·rintro ⟨d,e,hd,he⟩
  rcases hd with rfl | rfl | rfl | rfl
  ·have:=k1.2 ⟨e,he⟩; omega
  ·have:=k2.2 ⟨e,he⟩; omega
  ·have:=k3.2 ⟨e,he⟩; omega
  ·have:=k4.2 ⟨e,he⟩; omega
theorem part_none {w h:Int} (g:GridOK w h) {m:Nat} {c:S103} (hn:¬ UsedC w h m c):partN w h m c = 0:=by
 have hr:∀ p,Reach w h m c p → p = c:=fun p hp => by
  induction hp with
  | refl => rfl
  | step _ hd he hm ih =>
   subst ih
   exact absurd ⟨_,_,hd,he,hm⟩ hn
 apply Nat.eq_of_testBit_eq
 intro e
 rw [Nat.zero_testBit,Bool.eq_false_iff]
 intro ht
 obtain ⟨h1,p,d,h2,hd,he⟩:=(partN_test g m c e).1 ht
 rw [hr p h2] at he
 exact hn ⟨d,e,hd,he,h1⟩
theorem part_some {w h:Int} (g:GridOK w h) {m:Nat} {c:S103} (hu:UsedC w h m c):partN w h m c ≠ 0:=by
 obtain ⟨d,e,hd,he,hm⟩:=hu
 intro hz
 have:=(partN_test g m c e).2 ⟨hm,c,d,.refl,hd,he⟩
 rw [hz] at this
 simp at this
theorem used_less {w h:Int} {m F:Nat} {c:S103} (hu:UsedC w h (diffN m F) c):UsedC w h m c:=by
 obtain ⟨d,e,hd,he,hm⟩:=hu
 rw [diffN_test,Bool.and_eq_true] at hm
 exact ⟨d,e,hd,he,hm.1⟩
theorem used_own {w h:Int} (g:GridOK w h) {m:Nat} {c:S103}:¬ UsedC w h (diffN m (partN w h m c)) c:=by
 rintro ⟨d,e,hd,he,hm⟩
 rw [diffN_test,Bool.and_eq_true] at hm
 have:=(partN_test g m c e).2 ⟨hm.1,c,d,.refl,hd,he⟩
 rw [this] at hm
 exact absurd hm.2 (by simp)
theorem ed_first {w h:Int} (g:GridOK w h) (e:Nat) (he:e < figN w h):∃ c ∈ cornL w h,∃ d,four4 d ∧ edC w h c d = some e:=by
 have hall:(List.range (figN w h)).all (fun e => (cornL w h).any fun c => (edC w h c 101 == some e) || (edC w h c 115 == some e)) = true:=by
  obtain ⟨cw,ch⟩:=grid_cases g
  clear g he
  rcases cw with rfl | rfl | rfl | rfl <;> rcases ch with rfl | rfl | rfl | rfl <;> kernel_rfl
 have:=List.all_eq_true.1 hall e (List.mem_range.2 he)
 obtain ⟨c,hc,h2⟩:=List.any_eq_true.1 this
 rw [Bool.or_eq_true,beq_iff_eq,beq_iff_eq] at h2
 rcases h2 with h2 | h2
 ·exact ⟨c,hc,101,.inr (.inl rfl),h2⟩
 ·exact ⟨c,hc,115,.inr (.inr (.inl rfl)),h2⟩
theorem zero_of_unused {w h:Int} (g:GridOK w h) {m:Nat} (hm:m < 2 ^ figN w h) (hu:∀ c ∈ cornL w h,¬ UsedC w h m c):m = 0:=by
 apply Nat.eq_of_testBit_eq
 intro e
 rw [Nat.zero_testBit,Bool.eq_false_iff]
 intro ht
 by_cases he:e < figN w h
 ·obtain ⟨c,hc,d,hd,h2⟩:=ed_first g e he
  exact hu c hc ⟨d,e,hd,h2,ht⟩
 ·rw [Nat.testBit_lt_two_pow (Nat.lt_of_lt_of_le hm (Nat.pow_le_pow_right (by omega) (by omega)))] at ht
  cases ht
noncomputable def partsL (w h:Int):List S103 → Nat → List Nat
 | [],_ => []
 | c :: r,s => if partN w h s c = 0 then partsL w h r s else partN w h s c :: partsL w h r (diffN s (partN w h s c))
theorem partsL_len (w h:Int):∀ (r:List S103) (s:Nat),(partsL w h r s).length ≤ r.length
 | [],_ => Nat.le_refl _
 | c :: r,s => by
  unfold partsL
  split
  ·have:=partsL_len w h r s
   rw [List.length_cons]; omega
  ·have:=partsL_len w h r (diffN s (partN w h s c))
   rw [List.length_cons,List.length_cons]; omega
theorem partsL_lt (w h:Int):∀ (r:List S103) (s:Nat),∀ F ∈ partsL w h r s,F < 2 ^ figN w h
 | [],_,F,hF => by cases hF
 | c :: r,s,F,hF => by
  unfold partsL at hF
  split at hF
  ·exact partsL_lt w h r s F hF
  ·rcases List.mem_cons.1 hF with rfl | hF
   ·exact partN_lt _ _ _ _
   ·exact partsL_lt w h r _ F hF
theorem parts_l0 {w h:Int} (g:GridOK w h) (L:List S103) (hL:L.length ≤ 25):∀ (r f i s:Nat) (acc:List Int),L.length - i = r → i ≤ L.length → r + 400 < f → acc.length ≤ i → s < 2 ^ figN w h →
  impl_grid_parts.l0 f (s:Int) acc L (L.length:Int) (i:Int) w h = some (acc ++ (partsL w h (L.drop i) s).map fun F:Nat => (F:Int)):=by
 intro r
 induction r with
 | zero =>
  intro f i s acc h1 h2 hf ha hs
  clear hs
  obtain ⟨f,rfl⟩:∃ z,f = z + 1:=⟨f - 1,by omega⟩
  rw [impl_grid_parts.l0,if_neg (by omega),List.drop_of_length_le (by omega)]
  unfold partsL
  simp
 | succ r ih =>
  intro f i s acc h1 h2 hf ha hs
  have HS:=Aside0.mk hs
  clear hs
  obtain ⟨f,rfl⟩:∃ z,f = z + 1:=⟨f - 1,by omega⟩
  have hi:i < L.length:=by omega
  have hiz:(i:Int) < (L.length:Int):=by omega
  have hw:wrap64 ((i:Int) + 1) = ((i + 1:Nat):Int):=by unfold wrap64; omega
  rw [impl_grid_parts.l0,if_pos hiz,if_pos (Int.natCast_nonneg _),if_pos hiz,rd36_nat L i hi,from_f g HS.out L[i] f (by omega),Option.bind_some,hw,List.drop_eq_getElem_cons hi,partsL]
  by_cases hz:partN w h s L[i] = 0
  ·have hz':((partN w h s L[i]:Nat):Int) = 0:=by rw [hz]; rfl
   rw [if_pos hz',if_pos hz]
   exact ih f (i + 1) s acc (by omega) (by omega) (by omega) (by omega) HS.out
  ·have hz':¬ ((partN w h s L[i]:Nat):Int) = 0:=fun e => hz (by exact_mod_cast e)
   rw [if_neg hz',if_neg hz,if_pos (by omega),andNot_u64 s _ (pow_figN g HS.out) (pow_figN g (partN_lt _ _ _ _))]
   rw [ih f (i + 1) _ (acc ++ [((partN w h s L[i]:Nat):Int)]) (by omega) (by omega) (by omega) (by rw [List.length_append,List.length_singleton]; omega) (diffN_lt _ HS.out),List.append_assoc]
   rfl
theorem implParts_f {w h:Int} (g:GridOK w h) {m:Nat} (hm:m < 2 ^ figN w h) (k:Nat) (hk:1000 < k):impl_grid_parts.f k w h (m:Int) = some ((partsL w h (cornL w h) m).map fun F:Nat => (F:Int)):=by
 have hl:=cornL_len g
 have HM:=Aside0.mk hm
 clear hm
 unfold impl_grid_parts.f
 rw [corners_f g k (by omega),Option.bind_some]
 have:=parts_l0 g (cornL w h) hl (cornL w h).length k 0 m [] (by omega) (by omega) (by omega) (by simp) HM.out
 rw [List.drop_zero,List.nil_append] at this
 exact this
theorem liUsed_rows {w h:Int} (g:GridOK w h) {m:Nat} (hm:m < 2 ^ figN w h) (k:Nat) (hk:1000100 < k):spec_liUsed.f k w h (rowA w h m) (rowU w h m) = some ((cornL w h).filter fun c => decide (0 < meetE w h m c.f0 c.f1)):=by
 have lA:=rowA_len g m
 have lU:=rowU_len g m
 have gl:=cornL_len g
 have HM:=Aside0.mk hm
 clear hm
 unfold spec_liUsed.f
 rw [liAll_f g _ _ k (by omega),Option.bind_some]
 have:=spec_liUsed_loop g (figB_rows g m) (by omega) (by omega) _ (cornL_in g) (by omega) (cornL w h).length k 0 [] (by omega) (by omega) (by simp) (by omega)
 rw [figMask_rows g HM.out,List.drop_zero,List.nil_append] at this
 exact this
def figS (w h:Int) (F:Nat):S26:=⟨w,h,rowA w h F,rowU w h F⟩
theorem wrap_add {a b:Nat} (h1:a ≤ 1000) (h2:b ≤ 1000):wrap64 ((a:Int) + (b:Int)) = ((a + b:Nat):Int):=by
 unfold wrap64
 omega
theorem count_f {w h:Int} {a b:List Int} (h1:a.length ≤ 1000) (h2:b.length ≤ 1000):spec_fiCount.f w h a b = some ((a.length + b.length:Nat):Int):=by
 unfold spec_fiCount.f
 rw [wrap_add h1 h2]
theorem fiCount_pos {w h:Int} (g:GridOK w h) {m:Nat} (hm:m < 2 ^ figN w h):∃ n:Int,spec_fiCount.f w h (rowA w h m) (rowU w h m) = some n ∧ (0 < n ↔ m ≠ 0):=by
 have lA:=rowA_len g m
 have lU:=rowU_len g m
 have key:0 < (rowA w h m).length + (rowU w h m).length ↔ m ≠ 0:=by
  constructor
  ·rintro hp rfl
   have hz:rowA w h 0 = [] ∧ rowU w h 0 = []:=by
    constructor
    ·unfold rowA setL; simp
    ·unfold rowU setL; simp
   rw [hz.1,hz.2] at hp
   simp at hp
  ·intro hz
   obtain ⟨e,he⟩:∃ e,m.testBit e = true:=by
    by_cases hx:∃ e,m.testBit e = true
    ·exact hx
    ·exfalso
     apply hz
     apply Nat.eq_of_testBit_eq
     intro i
     rw [Nat.zero_testBit,Bool.eq_false_iff]
     exact fun h2 => hx ⟨i,h2⟩
   have hlt:e < figN w h:=by
    by_cases h2:e < figN w h
    ·exact h2
    ·rw [Nat.testBit_lt_two_pow (Nat.lt_of_lt_of_le hm (Nat.pow_le_pow_right (by omega) (by omega)))] at he
     cases he
   unfold figN at hlt
   by_cases h2:e < (w * (h + 1)).toNat
   ·have:=(rowA_in (w:=w) (h:=h) (M:=m) h2).2 he
    have:=List.length_pos_of_mem this
    omega
   ·have:=(rowU_in (w:=w) (h:=h) (M:=m) (i:=e - (w * (h + 1)).toNat) (by omega)).2 (by rw [show (w * (h + 1)).toNat + (e - (w * (h + 1)).toNat) = e by omega]; exact he)
    have:=List.length_pos_of_mem this
    omega
 clear hm
 refine ⟨(((rowA w h m).length + (rowU w h m).length:Nat):Int),?_,?_⟩
 ·exact count_f (Nat.le_trans lA (by decide)) (Nat.le_trans lU (by decide))
 ·rw [← key]
  omega
theorem liParts_l0 {w h:Int} (g:GridOK w h):∀ (r pre:List S103) (f s:Nat) (out:List S26),cornL w h = pre ++ r → s < 2 ^ figN w h → (∀ c ∈ pre,¬ UsedC w h s c) → r.length + 3500000 < f → out.length ≤ pre.length →
  spec_liParts.l0 f out w h (rowA w h s) (rowU w h s) = some (out ++ (partsL w h r s).map (figS w h))
 | [],pre,f,s,out,hc,hs,hp,hf,ho => by
  rw [List.append_nil] at hc
  have hz:=zero_of_unused g hs (by rw [hc]; exact hp)
  obtain ⟨n,h1,h2⟩:=fiCount_pos g hs
  clear hs
  obtain ⟨f,rfl⟩:∃ z,f = z + 1:=⟨f - 1,by omega⟩
  rw [spec_liParts.l0,h1,Option.bind_some,if_neg (fun h => (h2.1 h) hz)]
  unfold partsL
  simp
 | c :: r,pre,f,s,out,hc,hs,hp,hf,ho => by
  have hc2:cornL w h = (pre ++ [c]) ++ r:=by rw [hc,List.append_assoc]; rfl
  have hin:inC w h c.f0 c.f1:=cornL_in g c (by rw [hc]; exact List.mem_append_right _ List.mem_cons_self)
  have gl:=cornL_len g
  have hpl:pre.length ≤ 25:=by rw [hc,List.length_append] at gl; omega
  have HS:=Aside0.mk hs
  clear hs
  rw [partsL]
  by_cases hu:UsedC w h s c
  ·rw [if_neg (part_some g hu)]
   obtain ⟨f,rfl⟩:∃ z,f = z + 1:=⟨f - 1,by omega⟩
   obtain ⟨n,h1,h2⟩:=fiCount_pos g HS.out
   have hs0:s ≠ 0:=by
    rintro rfl
    obtain ⟨d,e,_,_,hm⟩:=hu
    simp at hm
   have hfil:(cornL w h).filter (fun c => decide (0 < meetE w h s c.f0 c.f1)) = c :: r.filter (fun c => decide (0 < meetE w h s c.f0 c.f1)):=by
    rw [hc,List.filter_append,List.filter_cons_of_pos (by rw [decide_eq_true_iff]; exact (meet_pos c).2 hu)]
    have:pre.filter (fun c => decide (0 < meetE w h s c.f0 c.f1)) = []:=by
     rw [List.filter_eq_nil_iff]
     intro q hq
     rw [decide_eq_true_iff,meet_pos]
     exact hp q hq
    rw [this,List.nil_append]
   rw [List.length_cons] at hf
   rw [spec_liParts.l0,h1,Option.bind_some,if_pos (h2.2 hs0),liUsed_rows g HS.out f (by omega),Option.bind_some,hfil,if_pos (by simp),List.getD_cons_zero,liPart_f g HS.out c hin f (by omega),Option.bind_some,if_pos (by omega)]
   dsimp only
   rw [fiLess_f g f (by omega),Option.bind_some]
   have hih:=liParts_l0 g r (pre ++ [c]) f (diffN s (partN w h s c)) (out ++ [⟨w,h,rowA w h (partN w h s c),rowU w h (partN w h s c)⟩]) hc2 (diffN_lt _ HS.out) (fun q hq hq2 => by
     rcases List.mem_append.1 hq with hq | hq
     ·exact hp q hq (used_less hq2)
     ·rw [List.mem_singleton] at hq
      subst hq
      exact used_own g hq2) (by omega) (by rw [List.length_append,List.length_append,List.length_singleton,List.length_singleton]; omega)
   rw [hih,List.append_assoc]
   rfl
  ·rw [if_pos (part_none g hu)]
   rw [List.length_cons] at hf
   exact liParts_l0 g r (pre ++ [c]) f s out hc2 HS.out (fun q hq => by
    rcases List.mem_append.1 hq with hq | hq
    ·exact hp q hq
    ·rw [List.mem_singleton] at hq
     subst hq
     exact hu) (by omega) (by rw [List.length_append]; omega)
theorem specParts_f {w h:Int} (g:GridOK w h) {m:Nat} (hm:m < 2 ^ figN w h) (k:Nat) (hk:3500100 < k):spec_liParts.f k w h (rowA w h m) (rowU w h m) = some ((partsL w h (cornL w h) m).map (figS w h)):=by
 have gl:=cornL_len g
 unfold spec_liParts.f
 exact liParts_l0 g (cornL w h) [] k m [] rfl hm (fun c hc => by cases hc) (by clear hm; omega) (Nat.le_refl _)


theorem prtI {w h:Int} (g:GridOK w h) (a u:List Int) (ps:List Nat) (hp:∀ F ∈ ps,F < 2 ^ figN w h) (hl:ps.length ≤ 25):∀ (r f i:Nat) (acc:List S26),ps.length - i = r → i ≤ ps.length → acc.length ≤ i → r + 1000 < f →
    impl_PartsOfFigure.l0 f acc (ps.map fun F:Nat => (F:Int)) ((ps.map fun F:Nat => (F:Int)).length:Int) (i:Int) w h a u = some (acc ++ (ps.drop i).map (figS w h),true):=by
  have HP:=Aside0.mk hp
  clear hp
  have hlen:(ps.map fun F:Nat => (F:Int)).length = ps.length:=List.length_map _
  intro r
  induction r with
  | zero =>
    intro f i acc h1 h2 h3 h4
    obtain ⟨f,rfl⟩:∃ z,f = z + 1:=⟨f - 1,by omega⟩
    rw [impl_PartsOfFigure.l0,if_neg (by omega),List.drop_of_length_le (by omega),List.map_nil,List.append_nil]
  | succ r ih =>
    intro f i acc h1 h2 h3 h4
    obtain ⟨f,rfl⟩:∃ z,f = z + 1:=⟨f - 1,by omega⟩
    have hi:i < ps.length:=by omega
    have hrd:rd (ps.map fun F:Nat => (F:Int)) (i:Int) = ((ps[i]:Nat):Int):=by
      unfold rd
      rw [Int.toNat_natCast,List.getD_eq_getElem?_getD,List.getElem?_map,List.getElem?_eq_getElem hi]
      rfl
    have e2:wrap64 ((i:Int) + 1) = ((i + 1:Nat):Int):=by unfold wrap64; omega
    have hf:impl_grid_figure.f w h ((ps[i]:Nat):Int) = some (w,h,rowA w h ps[i],rowU w h ps[i]):=figure_f g (HP.out _ (List.getElem_mem hi))
    rw [impl_PartsOfFigure.l0,if_pos (by omega),if_pos (by omega),if_pos (by omega),hrd,impl_Figure_grid.f,Option.bind_some]
    dsimp only
    rw [hf,Option.bind_some,if_pos (by omega),e2,ih f (i + 1) _ (by omega) (by omega) (by rw [List.length_append]; simp; omega) (by omega),List.drop_eq_getElem_cons hi,List.map_cons,List.append_assoc]
    rfl
theorem PartsOfFigure_pure {w h:Int} {a u:List Int} (ha:a.length ≤ 1000000) (hu:u.length ≤ 1000000):∃ R r2,spec_PartsOfFigure.f 4000001 w h a u = some (R,r2) ∧ impl_PartsOfFigure.f 4000001 w h a u = some (R,r2) ∧ R.length ≤ 25 ∧ ∀ x ∈ R,x.f2.length ≤ 20 ∧ x.f3.length ≤ 20:=by
  cases hf:figB w h a u with
  | false =>
    refine ⟨[],false,?_,?_,by simp,fun x hx => absurd hx List.not_mem_nil⟩
    · unfold spec_PartsOfFigure.f
      rw [fiGood_f w h a u ha hu _ (by decide),hf,Option.bind_some,if_neg (by decide)]
    · unfold impl_PartsOfFigure.f
      rw [IsFigure_f w h a u ha hu _ (by decide),hf,Option.bind_some,if_neg (by decide)]
  | true =>
    have g:=gridOK_of hf
    have gl:=cornL_len g
    have hset:=set_f hf ha hu 4000001 (by decide)
    have e2:=own_A hf
    have e3:=own_U hf
    have hm:Aside0 (figMask w h a u < 2 ^ figN w h):=⟨figMask_figN hf⟩
    have hfg:=fiGood_f w h a u ha hu 4000001 (by decide)
    have hif:=IsFigure_f w h a u ha hu 4000001 (by decide)
    rw [hf] at hfg hif
    generalize figMask w h a u = m at hset e2 e3 hm
    have pl:=partsL_len w h (cornL w h) m
    refine ⟨(partsL w h (cornL w h) m).map (figS w h),true,?_,?_,by rw [List.length_map]; omega,fun x hx => ?_⟩
    · unfold spec_PartsOfFigure.f
      rw [hfg,Option.bind_some,if_pos rfl,e2,e3,specParts_f g hm.out _ (by decide),Option.bind_some]
    · unfold impl_PartsOfFigure.f
      rw [hif,Option.bind_some,if_pos rfl,hset,impl_Figure_grid.f,Option.bind_some,Option.bind_some]
      dsimp only
      rw [implParts_f g hm.out _ (by decide),Option.bind_some]
      have:=prtI g a u (partsL w h (cornL w h) m) (partsL_lt w h _ m) (by omega) (partsL w h (cornL w h) m).length 4000001 0 [] (by omega) (by omega) (by simp) (by omega)
      rw [List.drop_zero,List.nil_append] at this
      exact this
    · obtain ⟨F,_,rfl⟩:=List.mem_map.1 hx
      exact ⟨rowA_len g F,rowU_len g F⟩

end Go.Proofs.YtjnajeplfgdklaaDoor.P
/- What the row's listed variable,math/bits' table,gives a walk; a world in which it is laid. -/
namespace Go.Proofs.YtjnajeplfgdklaaDoor.Laid
open Go.RowKit
theorem mapM_at {α β:Type} {f:α → Option β}:∀ {l:List α} {xs:List β},l.mapM f = some xs → ∀ (j:Nat) (x:α),l[j]? = some x → ∃ y,xs[j]? = some y ∧ f x = some y
  | [],xs,_,j,x,hj => by simp at hj
  | a :: l,xs,h,j,x,hj => by
    rw [List.mapM_cons] at h
    obtain ⟨y,hy,h⟩:=Option.bind_eq_some_iff.1 h
    obtain ⟨ys,hys,h⟩:=Option.bind_eq_some_iff.1 h
    obtain rfl:=Option.some.inj h
    cases j with
    | zero => simp at hj; subst hj; exact ⟨y,rfl,hy⟩
    | succ j => exact mapM_at hys j x (by simpa using hj)
theorem int_of_trod {H:Type} {enc:TypeId × Value → H} {P:Program} {w:World} {base:Nat} {sp:Nat → Bool} {held:Bool} {fuel:Nat} {t:TypeId} {k:IntKind} {c:Value} {y:DataW H × List MemPlace}
    (ht:P.underlying t = some (.int k)) (h:DataW.trod enc P w base sp held fuel t [c] = some y):∃ n,c = .int k n ∧ y = (.lit (.int k n),[]):=by
  cases fuel with
  | zero => simp [DataW.trod] at h
  | succ fuel =>
    cases c <;> simp [DataW.trod,ht] at h
    rename_i k' n
    obtain ⟨⟨rfl,_⟩,rfl⟩:=h
    exact ⟨n,rfl,rfl⟩
theorem bytes_of_trod {H:Type} {enc:TypeId × Value → H} {P:Program} {w:World} {base:Nat} {sp:Nat → Bool} {held:Bool} {fuel n:Nat} {t e:TypeId} {l:List Value} {tab:List Nat} {ps:List MemPlace} (ht:P.underlying t = some (.array n e)) (he:P.underlying e = some (.int .u8)) (h1:P.cellsOf t = n) (h2:P.cellsOf e = 1)
    (h:DataW.trod enc P w base sp held fuel t l = some (.agg (tab.map fun k:Nat => .lit (.int .u8 (k:Int))),ps)) (j:Nat) (hj:j < n):l[j]? = some (.int .u8 ((tab.getD j 0:Nat):Int)):=by
  cases fuel with
  | zero => simp [DataW.trod] at h
  | succ fuel =>
    simp only [DataW.trod,ht,h1,h2] at h
    split at h
    · rename_i hl
      obtain ⟨xs,hxs,hy⟩:=Option.map_eq_some_iff.1 h
      obtain ⟨y,hyj,hf⟩:=mapM_at hxs j j (by rw [List.getElem?_range hj])
      obtain ⟨c,hc⟩:∃ c,l[j]? = some c:=⟨l[j]'(by omega),List.getElem?_eq_getElem _⟩
      rw [Nat.mul_one,show (l.drop j).take 1 = [c] from by rw [List.drop_eq_getElem_cons (by omega)]; rw [List.getElem?_eq_getElem (by omega)] at hc; injection hc with hc; rw [hc]; rfl] at hf
      obtain ⟨m,rfl,rfl⟩:=int_of_trod he hf
      have h3:=(Prod.mk.inj hy).1
      injection h3 with h3
      have h4:=congrArg (fun q => q[j]?) h3
      simp only [List.getElem?_map,hyj,Option.map_some] at h4
      rw [hc,List.getD_eq_getElem?_getD]
      cases ht2:tab[j]? with
      | none => rw [ht2] at h4; cases h4
      | some q =>
        rw [ht2] at h4
        simp at h4
        rw [h4]; rfl
    · cases h
theorem gnum : Tryd.prog.globalNamed "math/bits.deBruijn64tab" = some 0 := by kernel_rfl
theorem gtype:(Tryd.prog.globals[0]?).map (·.type) = some 113:=by kernel_rfl
theorem cellsT:Tryd.prog.cellsOf 113 = 64:=by kernel_rfl
theorem cellsE:Tryd.prog.cellsOf 5 = 1:=by kernel_rfl
theorem tabIs:(Rows.laid_math_bits_deBruijn64tab:DataW Unit) = .agg (Lib.deBruijn64tab.map fun k => .lit (.int .u8 ((k:Nat):Int))):=by rfl
theorem plain (w : World) : laidMetH Tryd.prog [("math/bits.deBruijn64tab", Rows.laid_math_bits_deBruijn64tab)] w → laidMet Tryd.prog [("math/bits.deBruijn64tab", Rows.laid_math_bits_deBruijn64tab)] w := fun h => h
theorem tb {W : World} (h : laidMetH Tryd.prog [("math/bits.deBruijn64tab", Rows.laid_math_bits_deBruijn64tab)] W) : P.TB W := by
  obtain ⟨ps,⟨g,t,cs,fuel,p,q,hg,ht,hvar,hd,_,_⟩,_⟩:=plain W h
  obtain rfl:=Option.some.inj (gnum.symm.trans hg)
  obtain rfl:=Option.some.inj (gtype.symm.trans ht)
  refine ⟨fun j hj => ?_,trivial⟩
  rw [World.var?_cell hg hvar j]
  rw [tabIs] at hd
  have:=bytes_of_trod Tryd.underlying113 Tryd.underlying5 cellsT cellsE hd j hj
  rw [← Array.getElem?_toList]
  exact this
def cells64:Array Value:=(Lib.deBruijn64tab.map fun k => Value.int .u8 ((k:Nat):Int)).toArray
noncomputable def laidWorld (os:Os):World :=
  { World.holding Tryd.prog os ⟨#[],#[],[]⟩ with heap:=(World.holding Tryd.prog os ⟨#[],#[],[]⟩).heap.modify 0 fun
      | .cells _ t frozen => .cells cells64 t frozen
      | o => o }
set_option maxRecDepth 100000 in
theorem laidWorld_met (os : Os) (args : Array Value) : laidMetH Tryd.prog [("math/bits.deBruijn64tab", Rows.laid_math_bits_deBruijn64tab)] ((laidWorld os).forCall (fun _ _ => 0) ⟨#[], args, []⟩).memory :=
  laidMetH_of_parts (laidMet_of_run' 8 (by kernel_rfl) (by kernel_rfl)) (by kernel_rfl)
end Go.Proofs.YtjnajeplfgdklaaDoor.Laid
namespace Go.Proofs.YtjnajeplfgdklaaDoor.fnExactPartsOfFigure
open Go.ChangeShapes Go.WideShapes Go.ChangeAt Go.RowKit Go.Proofs.YtjnajeplfgdklaaDoorW.PrintWords Go.Joins
set_option linter.unusedVariables false
theorem own:ownKnob Tryd.prog.godebug = none:=Closed.own
theorem laidOut:laidOutB Tryd.prog = true:=Closed.laidOut
def IsRow (k:IntKind) (w:World) (a:Option Addr) (len cap:Nat) (zs:List Int):Prop :=
 (a = none ∧ len = 0 ∧ cap = 0 ∧ zs = []) ∨
 ∃ x,a = some x ∧ len ≤ cap ∧ cap ≤ maxLen ∧ zs.length = cap ∧ (∀ i,i < zs.length → w.cell? (x.add i) = some (.int k (zs.getD i 0))) ∧ ∀ n ∈ zs,(Lit.int k n).wf = true
theorem opened {H:Type} {enc:TypeId × Value → H} {W:World} {m:Nat} {c:Value} {y:DataW H × List MemPlace} (hy:DataW.trod enc Tryd.prog W 0 (fun _ => true) true m 22 [c] = some y) :
  ∃ a len cap zs,c = .slice a len cap ∧ IsRow .i64 W a len cap zs:=by
 rcases open_ints Tryd.underlying22 Tryd.underlying3 (by kernel_rfl) hy with ⟨hcs,_⟩ | ⟨x,l,c,zs,hcs,_,hl,hm,hz,_,hcell,hwz⟩
 ·simp at hcs
  exact ⟨none,0,0,[],hcs,.inl ⟨rfl,rfl,rfl,rfl⟩⟩
 ·simp at hcs
  exact ⟨some x,l,c,zs,hcs,.inr ⟨_,rfl,hl,hm,by simpa using hz,hcell,hwz⟩⟩
theorem walk (a b:Int) (A2:Option Addr) (n2 c2:Nat) (z2:List Int) (A3:Option Addr) (n3 c3:Nat) (z3:List Int)  (w:World) (w2:IsRow .i64 w A2 n2 c2 z2) (w3:IsRow .i64 w A3 n3 c3 z3) (y2:n2 * 8 ≤ 140737488351232) (y3:n3 * 8 ≤ 140737488351232) (hT:P.TB w) :
  Calls Tryd.prog 9 #[.agg #[.int .i64 a,.int .i64 b,.slice A2 n2 c2,.slice A3 n3 c3]] w fun e w' => e = .returned (.bool true) ∧ Below w.heap.size w w':=by
 obtain ⟨l2,rfl,hr2,hm2,hw2,hc2⟩:=ReadsInt.ofRowC w2
 obtain ⟨l3,rfl,hr3,hm3,hw3,hc3⟩:=ReadsInt.ofRowC w3
 have k2:=Kd.C_of_reads (d:=(0:Int)) (h1:=fun _ => rfl) hr2
 have k3:=Kd.C_of_reads (d:=(0:Int)) (h1:=fun _ => rfl) hr3
 by_cases hbig:l2.length + l3.length ≤ 1000000
 ·have b2:l2.length ≤ 1000000:=Nat.le_trans (Nat.le_add_right _ _) hbig
  have b3:l3.length ≤ 1000000:=Nat.le_trans (Nat.le_add_left _ _) hbig
  obtain ⟨R,r2,hp1,hp2,hp3,hp4⟩:=P.PartsOfFigure_pure (w:=a) (h:=b) (a:=l2) (u:=l3) b2 b3 
  exact P.law_PartsOfFigure_yes a b A2 c2 l2 A3 c3 l3  4200002 R r2 P.TB (fun _ _ h hb => h.below hb) w k2 hc2 k3 hc3 hT hbig (by omega) (fun x hx => by have:=hp4 x hx; omega) (Nat.lt_succ_self _)
   (fun B2 d2 B3 d3 W hu2 hd2 hu3 hd3 hG => P.spec_PartsOfFigure.calls 4000001 a b B2 d2 l2 B3 d3 l3  R r2 W hu2 hd2 hu3 hd3 hp1)
   (fun B2 d2 B3 d3 W hu2 hd2 hu3 hd3 hG => P.impl_PartsOfFigure.calls 4000001 a b B2 d2 l2 B3 d3 l3  R r2 W hu2 hd2 hu3 hd3 hG hp2)
 ·exact P.law_PartsOfFigure_no a b A2 c2 l2 A3 c3 l3  w k2 hc2 k3 hc3 (by clear hbig; omega) (by clear hbig; omega) hbig
theorem joined_mk (P:Program) (f:FuncId) (fn:Func) (s:ChangeSpec) (c:OpenClaim) (k0:(c.wf (OpenSpec.ofChange s)) = true) (k1:(laidOutB P) = true) (k2:(mapsRowed P) = true) (k3:(fn.params.all (P.readableRec ·)) = true) (k4:(namedTie P c.named s.vars) = true) (k5:((c.stops == [])) = true) (k6:((P.stops == [])) = true) (k7:((c.knobs == [])) = true) (k8:((P.stopKnobs == [])) = true) (k9:((c.inPlace == P.inPlace f)) = true) (k10:((c.unfollowed == P.unfollowed f)) = true) (k11:((c.recurses == P.recurses f)) = true) (k12:((c.named == P.varsNamed f)) = true) (k13:((c.maps == (fn.params.toList ++ s.plain.varTypes P).any (P.mapsRec ·))) = true) (k14:((c.ifaces == (fn.params.toList ++ s.plain.varTypes P).any (P.ifacesRec ·))) = true) (k15:((c.mapsOut == P.mapsAmong fn.resultTypes.toList)) = true) (k16:((c.loops == (fn.params.toList ++ s.plain.varTypes P).any (P.loopsFrom ·))) = true) (k17:((c.wideKeys == (fn.params.toList ++ s.plain.varTypes P ++ fn.resultTypes.toList).any (P.wideKeysFrom ·))) = true) (k18:(s.vars.all (P.varReadable ·)) = true) (k19:(fn.resultTypes.all (fun t => P.readableRec t && decide (t < P.types.size))) = true) (k20:((c.ifacesOut == fn.resultTypes.toList.any (P.ifacesRec ·))) = true) (k21:((c.loopsOut == fn.resultTypes.toList.any (P.loopsFrom ·))) = true) (k22:((c.plainKeys == P.plainKeys)) = true) (k23:(c.shortTexts.isNone) = true) (k24:(P.stopsHeard) = true) (k25:(P.mayEnter) = true) (k26:((c.lifted == P.liftsFinal)) = true) (k27:((P.make == some c.make)) = true) (hd:c.domain.isEmpty = true) (k28:(c.kinds == []) = true) (k29:((c.pinned == c.pinnedBy)) = true) (k30:((c.veiled == (fn.params.toList ++ s.plain.varTypes P ++ fn.resultTypes.toList).any (P.veiledRec ·))) = true) (k31:(c.veiledFits P fn.params.toList (fn.params.toList ++ s.plain.varTypes P ++ fn.resultTypes.toList)) = true):joinedFacts P f fn s c = true:=by
 unfold joinedFacts
 simp only [hd,if_true,k0,k1,k2,k3,k4,k5,k6,k7,k8,k9,k10,k11,k12,k13,k14,k15,k16,k17,k18,k19,k20,k21,k22,k23,k24,k25,k26,k27,k28,k29,k30,k31,Bool.and_self]
abbrev LAID : List (String × DataW Unit) := [("math/bits.deBruijn64tab", Rows.laid_math_bits_deBruijn64tab)]
set_option maxRecDepth 100000 in
theorem lifted (os:Os) (started:os.Started) (H:Type) (enc:TypeId × Value → H) :
  ReturnsInHanded {} Tryd.checked os 9 .any (fun w args => (Rows.fnExactPartsOfFigureSpec.pre enc Tryd.prog Tryd.f9 [] false w args ∧ laidMetH Tryd.prog LAID w) ∧ sizedMet enc Tryd.prog Tryd.f9 (OpenSpec.ofChange Rows.fnExactPartsOfFigureSpec) false w args) (Rows.fnExactPartsOfFigureSpec.post enc Tryd.prog Tryd.f9 false true false false):=by
 refine returnsInHanded_of_change_and (C:=Tryd.checked) (X:=fun w _ => laidMetH Tryd.prog LAID w) (fun _ _ _ hh h => h.of_heap hh) own started (by kernel_rfl) Tryd.func9 (ChangeSpec.witness_at (enc:=enc) (C:=Tryd.checked) (os:=os) (X:=fun w _ => laidMetH Tryd.prog LAID w) false (Laid.laidWorld os) #[.agg #[.int .i64 0,.int .i64 0,.slice none 0 0,.slice none 0 0]] 8 rfl (by kernel_rfl) (by kernel_rfl) (by kernel_rfl) (by kernel_rfl) (by kernel_rfl) (Laid.laidWorld_met os _)) ?_
 intro W base args ds gs before hval0 hW hcnd hsz0 hL _
 have hT:P.TB W:=Laid.tb hL
 have hsz:(DataW.weightsEach Tryd.prog (Tryd.f9.params.toList ++ Rows.fnExactPartsOfFigureSpec.plain.varTypes Tryd.prog) (ds ++ gs)).all (· ≤ reachBytes) = true:=hsz0
 have hval:∀ (j:Nat) t v,Tryd.f9.params[j]? = some t → args[j]? = some v → Value.okWide Tryd.prog W .any base t v:=hval0
 have hW':=hW
 obtain ⟨p,q,hA0,hV,rfl,hfz,hnd⟩:=hW
 have hA:DataW.TrodAll enc Tryd.prog W 0 (fun _ => true) true Tryd.f9.params.toList args.toList ds p:=hA0
 rw [Tryd.params9] at hA hval hsz
 obtain ⟨v0,vs0,d0,ds0,p0,q0,hargs,rfl,rfl,h0,r0⟩:=trodAll_cons hA
 obtain ⟨rfl,rfl,rfl⟩:=trodAll_nil r0
 obtain rfl:args = #[v0]:=by cases args; simp_all
 obtain ⟨rfl,rfl⟩:=trodVars_none hV
 have k0:=h0
 have lt0:∀ x ∈ p0,x.block < W.heap.size:=by obtain ⟨m,hm⟩:=k0; exact DataW.trod_lt m _ _ _ hm

 obtain ⟨c0,c1,c2,c3,y0,y1,y2,y3,m,rfl,rfl,rfl,hy0,hy1,hy2,hy3⟩:=open_agg4 Tryd.underlying24 (by kernel_rfl) (by kernel_rfl) (hval 0 24 v0 rfl rfl) h0
 have hsz2:(DataW.weightsEach Tryd.prog [3,3,22,22] [y0.1,y1.1,y2.1,y3.1]).all (· ≤ reachBytes) = true:=by
  rw [List.all_eq_true]
  intro n hn
  exact List.all_eq_true.1 hsz n (DataW.weights_mem_each (j:=0) (t:=24) (d:=.agg [y0.1,y1.1,y2.1,y3.1]) rfl rfl n (by simp only [DataW.weights,Tryd.underlying24]; exact hn))
 obtain ⟨a,e0,-,wa⟩:=DataW.trod_int Tryd.underlying3 hy0
 obtain ⟨b,e1,-,wb⟩:=DataW.trod_int Tryd.underlying3 hy1
 obtain ⟨a2,len2,cap2,z2,rfl,w2⟩:=opened hy2
 obtain ⟨a3,len3,cap3,z3,rfl,w3⟩:=opened hy3
 have z2_:len2 * 8 ≤ 140737488351232:=sized_ints hsz2 (j:=2) (t:=22) rfl rfl Tryd.underlying22 Tryd.underlying3 (by kernel_rfl) (by kernel_rfl) (⟨m,by simpa [Value.cells] using hy2⟩:DataW.Trod enc Tryd.prog W 0 (fun _ => true) true 22 (.slice a2 len2 cap2) y2.1 y2.2)
 have z3_:len3 * 8 ≤ 140737488351232:=sized_ints hsz2 (j:=3) (t:=22) rfl rfl Tryd.underlying22 Tryd.underlying3 (by kernel_rfl) (by kernel_rfl) (⟨m,by simpa [Value.cells] using hy3⟩:DataW.Trod enc Tryd.prog W 0 (fun _ => true) true 22 (.slice a3 len3 cap3) y3.1 y3.2)
 obtain rfl:c0 = .int .i64 a:=by simpa using e0
 obtain rfl:c1 = .int .i64 b:=by simpa using e1
 clear hA0 hval0 hsz0 hsz hsz2
 refine (walk a b a2 len2 cap2 z2 a3 len3 cap3 z3  W w2 w3 z2_ z3_ hT).mono fun e W' ⟨he,bel⟩ => ?_
 subst he
 exact ⟨_,rfl,_,_,_,[],_,[],hW',trodAll_mk1 (shut_bool Tryd.underlying4 _),(trodAll_cons_mk (Below.trod laidOut (by kernel_rfl) (of_decide_eq_true (by kernel_rfl)) k0 bel lt0) trodAll_mk0),rfl,bel.frame _,fun h => by cases h⟩
theorem k0_:(Rows.fnExactPartsOfFigureRow.wf (OpenSpec.ofChange Rows.fnExactPartsOfFigureSpec)) = true:=by kernel_rfl
theorem k1_:(laidOutB Tryd.prog) = true:=Closed.laidOut
theorem k2_:(mapsRowed Tryd.prog) = true:=Closed.mapsRowedP
theorem k3_:(Tryd.f9.params.all (Tryd.prog.readableRec ·)) = true:=by kernel_rfl
theorem k4_:(namedTie Tryd.prog Rows.fnExactPartsOfFigureRow.named Rows.fnExactPartsOfFigureSpec.vars) = true:=by kernel_rfl
theorem k5_:((Rows.fnExactPartsOfFigureRow.stops == [])) = true:=by kernel_rfl
theorem k6_:((Tryd.prog.stops == [])) = true:=Closed.noStops
theorem k7_:((Rows.fnExactPartsOfFigureRow.knobs == [])) = true:=by kernel_rfl
theorem k8_:((Tryd.prog.stopKnobs == [])) = true:=Closed.noKnobs
theorem k9_:((Rows.fnExactPartsOfFigureRow.inPlace == Tryd.prog.inPlace 9)) = true:=by kernel_rfl
theorem k10_:((Rows.fnExactPartsOfFigureRow.unfollowed == Tryd.prog.unfollowed 9)) = true:=by kernel_rfl
theorem k11_:((Rows.fnExactPartsOfFigureRow.recurses == Tryd.prog.recurses 9)) = true:=by kernel_rfl
theorem k12_:((Rows.fnExactPartsOfFigureRow.named == Tryd.prog.varsNamed 9)) = true:=by kernel_rfl
theorem k13_:((Rows.fnExactPartsOfFigureRow.maps == (Tryd.f9.params.toList ++ Rows.fnExactPartsOfFigureSpec.plain.varTypes Tryd.prog).any (Tryd.prog.mapsRec ·))) = true:=by kernel_rfl
theorem k14_:((Rows.fnExactPartsOfFigureRow.ifaces == (Tryd.f9.params.toList ++ Rows.fnExactPartsOfFigureSpec.plain.varTypes Tryd.prog).any (Tryd.prog.ifacesRec ·))) = true:=by kernel_rfl
theorem k15_:((Rows.fnExactPartsOfFigureRow.mapsOut == Tryd.prog.mapsAmong Tryd.f9.resultTypes.toList)) = true:=by kernel_rfl
theorem k16_:((Rows.fnExactPartsOfFigureRow.loops == (Tryd.f9.params.toList ++ Rows.fnExactPartsOfFigureSpec.plain.varTypes Tryd.prog).any (Tryd.prog.loopsFrom ·))) = true:=by kernel_rfl
theorem k17_:((Rows.fnExactPartsOfFigureRow.wideKeys == (Tryd.f9.params.toList ++ Rows.fnExactPartsOfFigureSpec.plain.varTypes Tryd.prog ++ Tryd.f9.resultTypes.toList).any (Tryd.prog.wideKeysFrom ·))) = true:=by kernel_rfl
theorem k18_:(Rows.fnExactPartsOfFigureSpec.vars.all (Tryd.prog.varReadable ·)) = true:=by kernel_rfl
theorem k19_:(Tryd.f9.resultTypes.all (fun t => Tryd.prog.readableRec t && decide (t < Tryd.prog.types.size))) = true:=by kernel_rfl
theorem k20_:((Rows.fnExactPartsOfFigureRow.ifacesOut == Tryd.f9.resultTypes.toList.any (Tryd.prog.ifacesRec ·))) = true:=by kernel_rfl
theorem k21_:((Rows.fnExactPartsOfFigureRow.loopsOut == Tryd.f9.resultTypes.toList.any (Tryd.prog.loopsFrom ·))) = true:=by kernel_rfl
theorem k22_:((Rows.fnExactPartsOfFigureRow.plainKeys == Tryd.prog.plainKeys)) = true:=by kernel_rfl
theorem k23_:(Rows.fnExactPartsOfFigureRow.shortTexts.isNone) = true:=by kernel_rfl
theorem k24_:(Tryd.prog.stopsHeard) = true:=Closed.stopsHeard
theorem k25_:(Tryd.prog.mayEnter) = true:=Closed.mayEnter
theorem k26_:((Rows.fnExactPartsOfFigureRow.lifted == Tryd.prog.liftsFinal)) = true:=by rw [Closed.liftsFinal]; kernel_rfl
theorem k27_:((Tryd.prog.make == some Rows.fnExactPartsOfFigureRow.make)) = true:=by rw [Closed.make]; kernel_rfl
theorem k28_:((Rows.fnExactPartsOfFigureRow.kinds == [])) = true:=by kernel_rfl
theorem k29_:((Rows.fnExactPartsOfFigureRow.pinned == Rows.fnExactPartsOfFigureRow.pinnedBy)) = true:=by kernel_rfl
theorem k30_:((Rows.fnExactPartsOfFigureRow.veiled == (Tryd.f9.params.toList ++ Rows.fnExactPartsOfFigureSpec.plain.varTypes Tryd.prog ++ Tryd.f9.resultTypes.toList).any (Tryd.prog.veiledRec ·))) = true:=by kernel_rfl
theorem k31_:(Rows.fnExactPartsOfFigureRow.veiledFits Tryd.prog Tryd.f9.params.toList (Tryd.f9.params.toList ++ Rows.fnExactPartsOfFigureSpec.plain.varTypes Tryd.prog ++ Tryd.f9.resultTypes.toList)) = true:=by kernel_rfl
theorem k99_:(Rows.fnExactPartsOfFigureRow.domain.isEmpty) = true:=by kernel_rfl
theorem closed:joinedFacts Tryd.prog 9 Tryd.f9 Rows.fnExactPartsOfFigureSpec Rows.fnExactPartsOfFigureRow = true :=
 joined_mk _ _ _ _ _ k0_ k1_ k2_ k3_ k4_ k5_ k6_ k7_ k8_ k9_ k10_ k11_ k12_ k13_ k14_ k15_ k16_ k17_ k18_ k19_ k20_ k21_ k22_ k23_ k24_ k25_ k26_ k27_ k99_ k28_ k29_ k30_ k31_
theorem over:Rows.fnExactPartsOfFigureRow.holds Tryd.pinned (OpenSpec.ofChange Rows.fnExactPartsOfFigureSpec) :=
 OpenClaim.holds_of_wide 9 Tryd.f9 rfl rfl rfl rfl rfl rfl rfl ⟨rfl,rfl,rfl,rfl,rfl⟩ rfl rfl rfl rfl rfl (by kernel_rfl) Tryd.func9 closed
  (of_decide_eq_true (by kernel_rfl)) (by unfold Func.isWrapper; first | (rw [if_pos (by decide +kernel)]; kernel_rfl) | (rw [if_neg (by decide +kernel)]; exact ⟨rfl,rfl⟩))
  (fun os started H enc _ => lifted os started H enc)
theorem card:Rows.FnExactPartsOfFigureCardSaid :=
 Claim7.holds_tied_plain_at .later [] [.data] true (true, "881df8fd4cc24539997f6b0e4a4c9c78cd9d90516025012de697bc07ffd4fb01") false
  over (fun _ h => by cases h) (by kernel_rfl) (fun _ h => by cases h) fnExactPartsOfFigure_row_tie rfl ⟨rfl,rfl⟩ (by kernel_rfl) rfl
  (fun f fn hf hfn => by
   obtain rfl : f = 9 := Option.some.inj ((show Tryd.prog.funcNamed "loop.example/g01233/laws.FnExactPartsOfFigure" = some 9 by kernel_rfl).symm.trans hf) |>.symm
   obtain rfl:fn = Tryd.f9:=(Option.some.inj (Tryd.func9.symm.trans hfn)).symm
   exact ⟨by kernel_rfl,fun j t ht => by
    rw [Tryd.params9] at ht
    have h3:t = 24 ∨ t = 3 ∨ t = 4:=by
     rcases j with _ | _ | _ | _ | _ | j
     all_goals first | (left; simpa using ht.symm) | (right; left; simpa using ht.symm) | (right; right; simpa using ht.symm) | simp at ht
    rcases h3 with rfl | rfl | rfl
    ·exact (show Tryd.prog.wantsStandIn 24 = false by kernel_rfl)
    ·exact (show Tryd.prog.wantsStandIn 3 = false by kernel_rfl)
    ·exact (show Tryd.prog.wantsStandIn 4 = false by kernel_rfl)⟩)
  (by kernel_rfl)
end Go.Proofs.YtjnajeplfgdklaaDoor.fnExactPartsOfFigure
namespace Go.Proofs.YtjnajeplfgdklaaDoor
theorem fnExactPartsOfFigure_holds : Rows.FnExactPartsOfFigureCardSaid := fnExactPartsOfFigure.card
end Go.Proofs.YtjnajeplfgdklaaDoor
