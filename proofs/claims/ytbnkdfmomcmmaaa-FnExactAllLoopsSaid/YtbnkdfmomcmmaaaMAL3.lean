/- For every input the law FnExactAllLoops answers true: the program's AllLoops tells what the reference's AllLoops tells; no condition. (part 3 of the proof; the words of the kit's print tool and the texts of this seat, merged by a program) -/
import Derived.Below
import Derived.ChangeOld
import Derived.Deep.RegionLaw
import Derived.OpenShut
import Derived.ProofKit
import Derived.ShutString
import Derived.SizedLaws
import Derived.Test.YtbnkdfmomcmmaaaRows
import Derived.WalkKit
import Derived.Test.YtbnkdfmomcmmaaaMAL2
namespace Go.Proofs.Ytbnkdfmomcmmaaa.P
open Go.RowKit Go.Proofs.YtbnkdfmomcmmaaaW.PrintWords Go.Proofs.YtbnkdfmomcmmaaaW.PrintLast Go.Proofs.YtbnkdfmomcmmaaaW.PrintMore
attribute [local go_sem] max2_int min2_int max_two min_two max_three min_three max_four min_four   -- for this text's walks alone
set_option linter.unusedVariables false
set_option linter.unusedSimpArgs false

def impl_Corner_next.f (a0_0 : Int) (a0_1 : Int) (a1 : Int) : Option (Int × Int) := if a1 = 110 then (some (a0_0, wrap64 (a0_1 - 1))) else (if a1 = 101 then (some (wrap64 (a0_0 + 1), a0_1)) else (if a1 = 115 then (some (a0_0, wrap64 (a0_1 + 1))) else (some (wrap64 (a0_0 - 1), a0_1))))
set_option maxHeartbeats 8000000 in
set_option maxRecDepth 100000 in
theorem impl_Corner_next.calls (a0_0 : Int) (a0_1 : Int) (a1 : Int) (r1 : Int) (r2 : Int) (w : World) (h : impl_Corner_next.f a0_0 a0_1 a1 = some (r1, r2)) :
    Calls Try.prog 32 #[.agg #[.int .i64 a0_0, .int .i64 a0_1], .int .u8 a1] w fun e w' => e = .returned (.agg #[.int .i64 r1, .int .i64 r2]) ∧ Below w.heap.size w w' := by
  have hu43 := Try.underlying43
  have HB := Aside0.mk (Below.refl w.heap.size w)
  have H : (if a1 = 110 then (some (a0_0, wrap64 (a0_1 - 1))) else (if a1 = 101 then (some (wrap64 (a0_0 + 1), a0_1)) else (if a1 = 115 then (some (a0_0, wrap64 (a0_1 + 1))) else (some (wrap64 (a0_0 - 1), a0_1))))) = some (r1, r2) := h
  clear h
  by_cases c3 : a1 = 110
  · rw [if_pos c3] at H
    have c3b0 : (a1 == 110) = true := beq_iff_eq.mpr c3
    have c3b1 : (a1 != 110) = false := bne_eq_false_iff_eq.mpr c3
    clear c3
    simp only [Option.some.injEq, Prod.mk.injEq] at H
    obtain ⟨rfl, rfl⟩ := H
    go_enter Try.func32, Try.ntmps32
    go_wp2_with (first | ((with_reducible refine gate_dst (N := 2) rfl ?_); refine box_event ?hg (N := 2) ?hd (cs := #[.int .i64 a0_0, .int .i64 a0_1]) (t := 43) ?hr ?_; (case hd => rfl); (case hg => rfl); (case hr => first | (go_simp; done) | (go_simp; rfl)); intro gb153 hg w4 hbox hb; have n0_ := Aside0.mk (below_step (by repeat (first | (with_reducible first | exact HB.out | apply below_alloc | apply pw_below_drewN | apply below_drew1) | exact HB.out)) hb); have n1_ := Aside0.mk (hbox); have n2_ := Aside0.mk ((by rw [hg]; exact (below_size (by repeat (first | (with_reducible first | exact HB.out | apply below_alloc | apply pw_below_drewN | apply below_drew1) | exact HB.out))) : w.heap.size ≤ gb153)); have n3_ := Aside0.mk ((by rw [hg]; exact (below_size (by repeat (first | (with_reducible first | exact HB.out | apply below_alloc | apply pw_below_drewN | apply below_drew1) | exact HB.out))) : w.heap.size ≤ gb153)); clear HB; have HB := n0_; have BK153 := n1_; have GW153 := n2_; have GE153 := n3_; clear n0_ n1_ n2_ n3_; clear hb hbox hg) | ((with_reducible refine gate_dst (N := 4) rfl ?_); refine box_event ?hg (N := 4) ?hd (cs := #[.int .i64 0, .int .i64 0]) (t := 43) ?hr ?_; (case hd => rfl); (case hg => rfl); (case hr => first | (go_simp; done) | (go_simp; rfl)); intro gb154 hg w5 hbox hb; have n0_ := Aside0.mk (blk_below (g := gb153) (o := .cells #[.int .i64 a0_0, .int .i64 a0_1] 43 (0, 0)) (by (with_reducible repeat (first | refine blk_drewN ?_ _ | refine blk_drew ?_ | refine blk_alloc ?_ _)); exact BK153.out) hb); have n1_ := Aside0.mk (below_step (by repeat (first | (with_reducible first | exact HB.out | apply below_alloc | apply pw_below_drewN | apply below_drew1 | refine below_set ?_ GE153.out) | exact HB.out)) hb); have n2_ := Aside0.mk (hbox); have n3_ := Aside0.mk ((by rw [hg]; exact (below_size (by repeat (first | (with_reducible first | exact HB.out | apply below_alloc | apply pw_below_drewN | apply below_drew1 | refine below_set ?_ GE153.out) | exact HB.out))) : w.heap.size ≤ gb154)); have n4_ := Aside0.mk ((by rw [hg]; exact (below_size (by repeat (first | (with_reducible first | exact HB.out | apply below_alloc | apply pw_below_drewN | apply below_drew1 | refine below_set ?_ GE153.out) | exact HB.out))) : w.heap.size ≤ gb154)); have n5_ := Aside0.mk ((by rw [hg]; exact Nat.ne_of_lt (blk_lt (g := gb153) (o := .cells #[.int .i64 a0_0, .int .i64 a0_1] 43 (0, 0)) (by (with_reducible repeat (first | refine blk_drewN ?_ _ | refine blk_drew ?_ | refine blk_alloc ?_ _)); exact BK153.out)) : gb153 ≠ gb154)); have n6_ := Aside0.mk ((by rw [hg]; exact Nat.ne_of_gt (blk_lt (g := gb153) (o := .cells #[.int .i64 a0_0, .int .i64 a0_1] 43 (0, 0)) (by (with_reducible repeat (first | refine blk_drewN ?_ _ | refine blk_drew ?_ | refine blk_alloc ?_ _)); exact BK153.out)) : gb154 ≠ gb153)); clear BK153; clear HB; have BK153 := n0_; have HB := n1_; have BK154 := n2_; have GW154 := n3_; have GE154 := n4_; have NB153_154 := n5_; have NB154_153 := n6_; clear n0_ n1_ n2_ n3_ n4_ n5_ n6_; clear hb hbox hg; have hnb6 := NB153_154.out; have hnc6 := NB154_153.out; have hcz7_0 : w5.cell? ⟨gb153, 0, none⟩ = some (.int .i64 a0_0) := (blk_cell BK153.out 0).trans rfl; have hcz7_1 : w5.cell? ⟨gb153, 1, none⟩ = some (.int .i64 a0_1) := (blk_cell BK153.out 1).trans rfl; have hfz7_0 := blk_frozen BK153.out 0; have hfz7_1 := blk_frozen BK153.out 1; have hcz8_0 : w5.cell? ⟨gb154, 0, none⟩ = some (.int .i64 0) := (blk_cell BK154.out 0).trans rfl; have hcz8_1 : w5.cell? ⟨gb154, 1, none⟩ = some (.int .i64 0) := (blk_cell BK154.out 1).trans rfl; have hfz8_0 := blk_frozen BK154.out 0; have hfz8_1 := blk_frozen BK154.out 1))
    refine bodyPost_ret (results_cell_row rfl _ _ gb154 43 #[.int .i64 a0_0, .int .i64 (wrap64 (a0_1 - 1))] (0, 0) _ rfl (by (with_reducible repeat (first | refine blk_drewN ?_ _ | refine blk_drew ?_ | refine blk_alloc ?_ _)); refine blk_put (cs := #[.int .i64 a0_0, .int .i64 0]) ?_ 1 _ rfl; (with_reducible repeat (first | refine blk_drewN ?_ _ | refine blk_drew ?_ | refine blk_alloc ?_ _)); refine blk_put (cs := #[.int .i64 0, .int .i64 0]) ?_ 0 _ rfl; (with_reducible repeat (first | refine blk_drewN ?_ _ | refine blk_drew ?_ | refine blk_alloc ?_ _)); exact BK154.out) Try.underlying43 rfl (by kernel_rfl)) rfl ?_
    exact ⟨by first | rfl | (simp [errW_none, errW_some] <;> rfl) | (simp [*, errW_none, errW_some] <;> rfl), by repeat (first | (with_reducible first | exact HB.out | apply below_alloc | apply pw_below_drewN | apply below_drew1 | refine below_set ?_ GE153.out | refine below_set ?_ GE154.out) | exact HB.out)⟩
  · rw [if_neg c3] at H
    have c3b0 : (a1 == 110) = false := beq_eq_false_iff_ne.mpr c3
    have c3b1 : (a1 != 110) = true := bne_iff_ne.mpr c3
    by_cases c9 : a1 = 101
    · rw [if_pos c9] at H
      have c9b0 : (a1 == 101) = true := beq_iff_eq.mpr c9
      have c9b1 : (a1 != 101) = false := bne_eq_false_iff_eq.mpr c9
      clear c9
      simp only [Option.some.injEq, Prod.mk.injEq] at H
      obtain ⟨rfl, rfl⟩ := H
      go_enter Try.func32, Try.ntmps32
      go_wp2_with (first | ((with_reducible refine gate_dst (N := 2) rfl ?_); refine box_event ?hg (N := 2) ?hd (cs := #[.int .i64 a0_0, .int .i64 a0_1]) (t := 43) ?hr ?_; (case hd => rfl); (case hg => rfl); (case hr => first | (go_simp; done) | (go_simp; rfl)); intro gb153 hg w10 hbox hb; have n0_ := Aside0.mk (below_step (by repeat (first | (with_reducible first | exact HB.out | apply below_alloc | apply pw_below_drewN | apply below_drew1) | exact HB.out)) hb); have n1_ := Aside0.mk (hbox); have n2_ := Aside0.mk ((by rw [hg]; exact (below_size (by repeat (first | (with_reducible first | exact HB.out | apply below_alloc | apply pw_below_drewN | apply below_drew1) | exact HB.out))) : w.heap.size ≤ gb153)); have n3_ := Aside0.mk ((by rw [hg]; exact (below_size (by repeat (first | (with_reducible first | exact HB.out | apply below_alloc | apply pw_below_drewN | apply below_drew1) | exact HB.out))) : w.heap.size ≤ gb153)); clear HB; have HB := n0_; have BK153 := n1_; have GW153 := n2_; have GE153 := n3_; clear n0_ n1_ n2_ n3_; clear hb hbox hg) | ((with_reducible refine gate_dst (N := 4) rfl ?_); refine box_event ?hg (N := 4) ?hd (cs := #[.int .i64 0, .int .i64 0]) (t := 43) ?hr ?_; (case hd => rfl); (case hg => rfl); (case hr => first | (go_simp; done) | (go_simp; rfl)); intro gb154 hg w11 hbox hb; have n0_ := Aside0.mk (blk_below (g := gb153) (o := .cells #[.int .i64 a0_0, .int .i64 a0_1] 43 (0, 0)) (by (with_reducible repeat (first | refine blk_drewN ?_ _ | refine blk_drew ?_ | refine blk_alloc ?_ _)); exact BK153.out) hb); have n1_ := Aside0.mk (below_step (by repeat (first | (with_reducible first | exact HB.out | apply below_alloc | apply pw_below_drewN | apply below_drew1 | refine below_set ?_ GE153.out) | exact HB.out)) hb); have n2_ := Aside0.mk (hbox); have n3_ := Aside0.mk ((by rw [hg]; exact (below_size (by repeat (first | (with_reducible first | exact HB.out | apply below_alloc | apply pw_below_drewN | apply below_drew1 | refine below_set ?_ GE153.out) | exact HB.out))) : w.heap.size ≤ gb154)); have n4_ := Aside0.mk ((by rw [hg]; exact (below_size (by repeat (first | (with_reducible first | exact HB.out | apply below_alloc | apply pw_below_drewN | apply below_drew1 | refine below_set ?_ GE153.out) | exact HB.out))) : w.heap.size ≤ gb154)); have n5_ := Aside0.mk ((by rw [hg]; exact Nat.ne_of_lt (blk_lt (g := gb153) (o := .cells #[.int .i64 a0_0, .int .i64 a0_1] 43 (0, 0)) (by (with_reducible repeat (first | refine blk_drewN ?_ _ | refine blk_drew ?_ | refine blk_alloc ?_ _)); exact BK153.out)) : gb153 ≠ gb154)); have n6_ := Aside0.mk ((by rw [hg]; exact Nat.ne_of_gt (blk_lt (g := gb153) (o := .cells #[.int .i64 a0_0, .int .i64 a0_1] 43 (0, 0)) (by (with_reducible repeat (first | refine blk_drewN ?_ _ | refine blk_drew ?_ | refine blk_alloc ?_ _)); exact BK153.out)) : gb154 ≠ gb153)); clear BK153; clear HB; have BK153 := n0_; have HB := n1_; have BK154 := n2_; have GW154 := n3_; have GE154 := n4_; have NB153_154 := n5_; have NB154_153 := n6_; clear n0_ n1_ n2_ n3_ n4_ n5_ n6_; clear hb hbox hg; have hnb12 := NB153_154.out; have hnc12 := NB154_153.out; have hcz13_0 : w11.cell? ⟨gb153, 0, none⟩ = some (.int .i64 a0_0) := (blk_cell BK153.out 0).trans rfl; have hcz13_1 : w11.cell? ⟨gb153, 1, none⟩ = some (.int .i64 a0_1) := (blk_cell BK153.out 1).trans rfl; have hfz13_0 := blk_frozen BK153.out 0; have hfz13_1 := blk_frozen BK153.out 1; have hcz14_0 : w11.cell? ⟨gb154, 0, none⟩ = some (.int .i64 0) := (blk_cell BK154.out 0).trans rfl; have hcz14_1 : w11.cell? ⟨gb154, 1, none⟩ = some (.int .i64 0) := (blk_cell BK154.out 1).trans rfl; have hfz14_0 := blk_frozen BK154.out 0; have hfz14_1 := blk_frozen BK154.out 1))
      refine bodyPost_ret (results_cell_row rfl _ _ gb154 43 #[.int .i64 (wrap64 (a0_0 + 1)), .int .i64 a0_1] (0, 0) _ rfl (by (with_reducible repeat (first | refine blk_drewN ?_ _ | refine blk_drew ?_ | refine blk_alloc ?_ _)); refine blk_put (cs := #[.int .i64 (wrap64 (a0_0 + 1)), .int .i64 0]) ?_ 1 _ rfl; (with_reducible repeat (first | refine blk_drewN ?_ _ | refine blk_drew ?_ | refine blk_alloc ?_ _)); refine blk_put (cs := #[.int .i64 0, .int .i64 0]) ?_ 0 _ rfl; (with_reducible repeat (first | refine blk_drewN ?_ _ | refine blk_drew ?_ | refine blk_alloc ?_ _)); exact BK154.out) Try.underlying43 rfl (by kernel_rfl)) rfl ?_
      exact ⟨by first | rfl | (simp [errW_none, errW_some] <;> rfl) | (simp [*, errW_none, errW_some] <;> rfl), by repeat (first | (with_reducible first | exact HB.out | apply below_alloc | apply pw_below_drewN | apply below_drew1 | refine below_set ?_ GE153.out | refine below_set ?_ GE154.out) | exact HB.out)⟩
    · rw [if_neg c9] at H
      have c9b0 : (a1 == 101) = false := beq_eq_false_iff_ne.mpr c9
      have c9b1 : (a1 != 101) = true := bne_iff_ne.mpr c9
      by_cases c15 : a1 = 115
      · rw [if_pos c15] at H
        have c15b0 : (a1 == 115) = true := beq_iff_eq.mpr c15
        have c15b1 : (a1 != 115) = false := bne_eq_false_iff_eq.mpr c15
        clear c15
        simp only [Option.some.injEq, Prod.mk.injEq] at H
        obtain ⟨rfl, rfl⟩ := H
        go_enter Try.func32, Try.ntmps32
        go_wp2_with (first | ((with_reducible refine gate_dst (N := 2) rfl ?_); refine box_event ?hg (N := 2) ?hd (cs := #[.int .i64 a0_0, .int .i64 a0_1]) (t := 43) ?hr ?_; (case hd => rfl); (case hg => rfl); (case hr => first | (go_simp; done) | (go_simp; rfl)); intro gb153 hg w16 hbox hb; have n0_ := Aside0.mk (below_step (by repeat (first | (with_reducible first | exact HB.out | apply below_alloc | apply pw_below_drewN | apply below_drew1) | exact HB.out)) hb); have n1_ := Aside0.mk (hbox); have n2_ := Aside0.mk ((by rw [hg]; exact (below_size (by repeat (first | (with_reducible first | exact HB.out | apply below_alloc | apply pw_below_drewN | apply below_drew1) | exact HB.out))) : w.heap.size ≤ gb153)); have n3_ := Aside0.mk ((by rw [hg]; exact (below_size (by repeat (first | (with_reducible first | exact HB.out | apply below_alloc | apply pw_below_drewN | apply below_drew1) | exact HB.out))) : w.heap.size ≤ gb153)); clear HB; have HB := n0_; have BK153 := n1_; have GW153 := n2_; have GE153 := n3_; clear n0_ n1_ n2_ n3_; clear hb hbox hg) | ((with_reducible refine gate_dst (N := 4) rfl ?_); refine box_event ?hg (N := 4) ?hd (cs := #[.int .i64 0, .int .i64 0]) (t := 43) ?hr ?_; (case hd => rfl); (case hg => rfl); (case hr => first | (go_simp; done) | (go_simp; rfl)); intro gb154 hg w17 hbox hb; have n0_ := Aside0.mk (blk_below (g := gb153) (o := .cells #[.int .i64 a0_0, .int .i64 a0_1] 43 (0, 0)) (by (with_reducible repeat (first | refine blk_drewN ?_ _ | refine blk_drew ?_ | refine blk_alloc ?_ _)); exact BK153.out) hb); have n1_ := Aside0.mk (below_step (by repeat (first | (with_reducible first | exact HB.out | apply below_alloc | apply pw_below_drewN | apply below_drew1 | refine below_set ?_ GE153.out) | exact HB.out)) hb); have n2_ := Aside0.mk (hbox); have n3_ := Aside0.mk ((by rw [hg]; exact (below_size (by repeat (first | (with_reducible first | exact HB.out | apply below_alloc | apply pw_below_drewN | apply below_drew1 | refine below_set ?_ GE153.out) | exact HB.out))) : w.heap.size ≤ gb154)); have n4_ := Aside0.mk ((by rw [hg]; exact (below_size (by repeat (first | (with_reducible first | exact HB.out | apply below_alloc | apply pw_below_drewN | apply below_drew1 | refine below_set ?_ GE153.out) | exact HB.out))) : w.heap.size ≤ gb154)); have n5_ := Aside0.mk ((by rw [hg]; exact Nat.ne_of_lt (blk_lt (g := gb153) (o := .cells #[.int .i64 a0_0, .int .i64 a0_1] 43 (0, 0)) (by (with_reducible repeat (first | refine blk_drewN ?_ _ | refine blk_drew ?_ | refine blk_alloc ?_ _)); exact BK153.out)) : gb153 ≠ gb154)); have n6_ := Aside0.mk ((by rw [hg]; exact Nat.ne_of_gt (blk_lt (g := gb153) (o := .cells #[.int .i64 a0_0, .int .i64 a0_1] 43 (0, 0)) (by (with_reducible repeat (first | refine blk_drewN ?_ _ | refine blk_drew ?_ | refine blk_alloc ?_ _)); exact BK153.out)) : gb154 ≠ gb153)); clear BK153; clear HB; have BK153 := n0_; have HB := n1_; have BK154 := n2_; have GW154 := n3_; have GE154 := n4_; have NB153_154 := n5_; have NB154_153 := n6_; clear n0_ n1_ n2_ n3_ n4_ n5_ n6_; clear hb hbox hg; have hnb18 := NB153_154.out; have hnc18 := NB154_153.out; have hcz19_0 : w17.cell? ⟨gb153, 0, none⟩ = some (.int .i64 a0_0) := (blk_cell BK153.out 0).trans rfl; have hcz19_1 : w17.cell? ⟨gb153, 1, none⟩ = some (.int .i64 a0_1) := (blk_cell BK153.out 1).trans rfl; have hfz19_0 := blk_frozen BK153.out 0; have hfz19_1 := blk_frozen BK153.out 1; have hcz20_0 : w17.cell? ⟨gb154, 0, none⟩ = some (.int .i64 0) := (blk_cell BK154.out 0).trans rfl; have hcz20_1 : w17.cell? ⟨gb154, 1, none⟩ = some (.int .i64 0) := (blk_cell BK154.out 1).trans rfl; have hfz20_0 := blk_frozen BK154.out 0; have hfz20_1 := blk_frozen BK154.out 1))
        refine bodyPost_ret (results_cell_row rfl _ _ gb154 43 #[.int .i64 a0_0, .int .i64 (wrap64 (a0_1 + 1))] (0, 0) _ rfl (by (with_reducible repeat (first | refine blk_drewN ?_ _ | refine blk_drew ?_ | refine blk_alloc ?_ _)); refine blk_put (cs := #[.int .i64 a0_0, .int .i64 0]) ?_ 1 _ rfl; (with_reducible repeat (first | refine blk_drewN ?_ _ | refine blk_drew ?_ | refine blk_alloc ?_ _)); refine blk_put (cs := #[.int .i64 0, .int .i64 0]) ?_ 0 _ rfl; (with_reducible repeat (first | refine blk_drewN ?_ _ | refine blk_drew ?_ | refine blk_alloc ?_ _)); exact BK154.out) Try.underlying43 rfl (by kernel_rfl)) rfl ?_
        exact ⟨by first | rfl | (simp [errW_none, errW_some] <;> rfl) | (simp [*, errW_none, errW_some] <;> rfl), by repeat (first | (with_reducible first | exact HB.out | apply below_alloc | apply pw_below_drewN | apply below_drew1 | refine below_set ?_ GE153.out | refine below_set ?_ GE154.out) | exact HB.out)⟩
      · rw [if_neg c15] at H
        have c15b0 : (a1 == 115) = false := beq_eq_false_iff_ne.mpr c15
        have c15b1 : (a1 != 115) = true := bne_iff_ne.mpr c15
        simp only [Option.some.injEq, Prod.mk.injEq] at H
        obtain ⟨rfl, rfl⟩ := H
        go_enter Try.func32, Try.ntmps32
        go_wp2_with (first | ((with_reducible refine gate_dst (N := 2) rfl ?_); refine box_event ?hg (N := 2) ?hd (cs := #[.int .i64 a0_0, .int .i64 a0_1]) (t := 43) ?hr ?_; (case hd => rfl); (case hg => rfl); (case hr => first | (go_simp; done) | (go_simp; rfl)); intro gb153 hg w21 hbox hb; have n0_ := Aside0.mk (below_step (by repeat (first | (with_reducible first | exact HB.out | apply below_alloc | apply pw_below_drewN | apply below_drew1) | exact HB.out)) hb); have n1_ := Aside0.mk (hbox); have n2_ := Aside0.mk ((by rw [hg]; exact (below_size (by repeat (first | (with_reducible first | exact HB.out | apply below_alloc | apply pw_below_drewN | apply below_drew1) | exact HB.out))) : w.heap.size ≤ gb153)); have n3_ := Aside0.mk ((by rw [hg]; exact (below_size (by repeat (first | (with_reducible first | exact HB.out | apply below_alloc | apply pw_below_drewN | apply below_drew1) | exact HB.out))) : w.heap.size ≤ gb153)); clear HB; have HB := n0_; have BK153 := n1_; have GW153 := n2_; have GE153 := n3_; clear n0_ n1_ n2_ n3_; clear hb hbox hg) | ((with_reducible refine gate_dst (N := 4) rfl ?_); refine box_event ?hg (N := 4) ?hd (cs := #[.int .i64 0, .int .i64 0]) (t := 43) ?hr ?_; (case hd => rfl); (case hg => rfl); (case hr => first | (go_simp; done) | (go_simp; rfl)); intro gb154 hg w22 hbox hb; have n0_ := Aside0.mk (blk_below (g := gb153) (o := .cells #[.int .i64 a0_0, .int .i64 a0_1] 43 (0, 0)) (by (with_reducible repeat (first | refine blk_drewN ?_ _ | refine blk_drew ?_ | refine blk_alloc ?_ _)); exact BK153.out) hb); have n1_ := Aside0.mk (below_step (by repeat (first | (with_reducible first | exact HB.out | apply below_alloc | apply pw_below_drewN | apply below_drew1 | refine below_set ?_ GE153.out) | exact HB.out)) hb); have n2_ := Aside0.mk (hbox); have n3_ := Aside0.mk ((by rw [hg]; exact (below_size (by repeat (first | (with_reducible first | exact HB.out | apply below_alloc | apply pw_below_drewN | apply below_drew1 | refine below_set ?_ GE153.out) | exact HB.out))) : w.heap.size ≤ gb154)); have n4_ := Aside0.mk ((by rw [hg]; exact (below_size (by repeat (first | (with_reducible first | exact HB.out | apply below_alloc | apply pw_below_drewN | apply below_drew1 | refine below_set ?_ GE153.out) | exact HB.out))) : w.heap.size ≤ gb154)); have n5_ := Aside0.mk ((by rw [hg]; exact Nat.ne_of_lt (blk_lt (g := gb153) (o := .cells #[.int .i64 a0_0, .int .i64 a0_1] 43 (0, 0)) (by (with_reducible repeat (first | refine blk_drewN ?_ _ | refine blk_drew ?_ | refine blk_alloc ?_ _)); exact BK153.out)) : gb153 ≠ gb154)); have n6_ := Aside0.mk ((by rw [hg]; exact Nat.ne_of_gt (blk_lt (g := gb153) (o := .cells #[.int .i64 a0_0, .int .i64 a0_1] 43 (0, 0)) (by (with_reducible repeat (first | refine blk_drewN ?_ _ | refine blk_drew ?_ | refine blk_alloc ?_ _)); exact BK153.out)) : gb154 ≠ gb153)); clear BK153; clear HB; have BK153 := n0_; have HB := n1_; have BK154 := n2_; have GW154 := n3_; have GE154 := n4_; have NB153_154 := n5_; have NB154_153 := n6_; clear n0_ n1_ n2_ n3_ n4_ n5_ n6_; clear hb hbox hg; have hnb23 := NB153_154.out; have hnc23 := NB154_153.out; have hcz24_0 : w22.cell? ⟨gb153, 0, none⟩ = some (.int .i64 a0_0) := (blk_cell BK153.out 0).trans rfl; have hcz24_1 : w22.cell? ⟨gb153, 1, none⟩ = some (.int .i64 a0_1) := (blk_cell BK153.out 1).trans rfl; have hfz24_0 := blk_frozen BK153.out 0; have hfz24_1 := blk_frozen BK153.out 1; have hcz25_0 : w22.cell? ⟨gb154, 0, none⟩ = some (.int .i64 0) := (blk_cell BK154.out 0).trans rfl; have hcz25_1 : w22.cell? ⟨gb154, 1, none⟩ = some (.int .i64 0) := (blk_cell BK154.out 1).trans rfl; have hfz25_0 := blk_frozen BK154.out 0; have hfz25_1 := blk_frozen BK154.out 1))
        refine bodyPost_ret (results_cell_row rfl _ _ gb154 43 #[.int .i64 (wrap64 (a0_0 - 1)), .int .i64 a0_1] (0, 0) _ rfl (by (with_reducible repeat (first | refine blk_drewN ?_ _ | refine blk_drew ?_ | refine blk_alloc ?_ _)); refine blk_put (cs := #[.int .i64 (wrap64 (a0_0 - 1)), .int .i64 0]) ?_ 1 _ rfl; (with_reducible repeat (first | refine blk_drewN ?_ _ | refine blk_drew ?_ | refine blk_alloc ?_ _)); refine blk_put (cs := #[.int .i64 0, .int .i64 0]) ?_ 0 _ rfl; (with_reducible repeat (first | refine blk_drewN ?_ _ | refine blk_drew ?_ | refine blk_alloc ?_ _)); exact BK154.out) Try.underlying43 rfl (by kernel_rfl)) rfl ?_
        exact ⟨by first | rfl | (simp [errW_none, errW_some] <;> rfl) | (simp [*, errW_none, errW_some] <;> rfl), by repeat (first | (with_reducible first | exact HB.out | apply below_alloc | apply pw_below_drewN | apply below_drew1 | refine below_set ?_ GE153.out | refine below_set ?_ GE154.out) | exact HB.out)⟩

end Go.Proofs.Ytbnkdfmomcmmaaa.P


namespace Go.Proofs.Ytbnkdfmomcmmaaa.P
open Go.RowKit Go.Proofs.YtbnkdfmomcmmaaaW.PrintWords Go.Proofs.YtbnkdfmomcmmaaaW.PrintLast Go.Proofs.YtbnkdfmomcmmaaaW.PrintMore
attribute [local go_sem] max2_int min2_int max_two min_two max_three min_three max_four min_four   -- for this text's walks alone
set_option linter.unusedVariables false
set_option linter.unusedSimpArgs false

theorem equalIn_some_nil {P : Program} {t e : TypeId} (h : P.underlying t = some (.slice e)) (w : World) (d : Nat) (a : Addr) (n c n' c' : Nat) :
    (Op.equalIn (d + 1) t (.slice (some a) n c) (.slice none n' c')).run P w = .ok false w := by
  simp [Op.equalIn, run_underlying h]
theorem eql_some_nil {P : Program} {t e : TypeId} (h : P.underlying t = some (.slice e)) (w : World) (a : Addr) (n c : Nat) :
    (binOp .eql t (.slice (some a) n c) (.slice none 0 0)).run P w = .ok (.bool false) w := by
  simp only [binOp]
  simp [Op.equal, Op.maxDepth, equalIn_some_nil h w 9999 a n c 0 0]
set_option maxHeartbeats 2000000 in
theorem cloneB_any (a0 : Addr) (c0 : Nat) (l0 : List Int) (w : World) (hr0 : Kd.C (Kd.int .u8) w (some a0) l0.length l0) (hl : l0.length ≤ 1000000) :
    Calls Try.prog 33 #[.slice (some a0) l0.length c0] w fun e w' => ∃ v, e = .returned v ∧ Kd.R (Kd.int .u8) 5 w' w.heap.size (fun _ => True) v l0 ∧ Below w.heap.size w w' := by
  have HR := Aside0.mk (Kd.reads_of_C (d := (0 : Int)) hr0)
  have HL := Aside0.mk hl
  clear hr0 hl
  have hi5 : (Try.prog.info? 5).map (fun i => (i.zero, i.size, i.bytes)) = some (some (.int .u8 0), 1, 1) := by kernel_rfl
  have heq := fun w n c => eql_some_nil (P := Try.prog) Try.underlying47 w a0 n c
  go_enter Try.func33, Try.ntmps33
  go_wp2_with ((at_builtin; refine print_append_row (w0 := w) w.heap.size rfl _ _ _ _ .u8 1 rfl Try.underlying47 hi5 (by decide) (.slice (some ⟨w.heap.size, 0, none⟩) 0 0) [] l0 _ _ _ rfl rfl ?xA ?xB ?xC ?xD ?xE ?_; (case xA => exact own_lit w w.heap.size 5 .u8 [] (Nat.le_refl _) (by simp)); (case xB => exact ReadsInt.below HR.out (below_alloc (Below.refl _ _) _)); (case xC => exact below_alloc (Below.refl _ _) _); (case xD => simp); (case xE => first | omega | (have h_ := HL.out; simp; omega)); intro v1 w1 ho hb hg hat; have HO : Aside0 (Kd.R (Kd.int .u8) 5 w1 w.heap.size (fun _ => True) v1 l0) := ⟨Kd.R_of_own (enc := Value.int .u8) (h1 := fun _ => rfl) ho (fun _ _ => trivial)⟩; have HB := Aside0.mk hb; clear ho hb hg hat))
  go_ret
  exact ⟨_, rfl, HO.out, HB.out⟩

end Go.Proofs.Ytbnkdfmomcmmaaa.P


namespace Go.Proofs.Ytbnkdfmomcmmaaa.P
open Go.RowKit Go.Proofs.YtbnkdfmomcmmaaaW.PrintWords Go.Proofs.YtbnkdfmomcmmaaaW.PrintLast Go.Proofs.YtbnkdfmomcmmaaaW.PrintMore
attribute [local go_sem] max2_int min2_int max_two min_two max_three min_three max_four min_four   -- for this text's walks alone
set_option linter.unusedVariables false
set_option linter.unusedSimpArgs false

attribute [local go_sem high] eqA43
def nx4 (x d : Int) : Int := if d = 101 then x + 1 else if d = 119 then x - 1 else x
def ny4 (y d : Int) : Int := if d = 110 then y - 1 else if d = 115 then y + 1 else y
def pieceW (F : List (Int × Int) → List Int → Int → Int → List (List Int)) (m : Nat) (S : List (Int × Int)) (word : List Int) (x y d : Int) : List (List Int) :=
  if nx4 x d = 0 ∧ ny4 y d = 0 ∧ m = 0 then F S (word ++ [d]) (nx4 x d) (ny4 y d)
  else if (nx4 x d, ny4 y d) ∈ S ∨ ny4 y d < 0 ∨ (ny4 y d = 0 ∧ nx4 x d < 0) ∨ (m : Int) + 1 ≤ max (nx4 x d) (-(nx4 x d)) + ny4 y d then []
  else F ((nx4 x d, ny4 y d) :: S) (word ++ [d]) (nx4 x d) (ny4 y d)
def walkW : Nat → List (Int × Int) → List Int → Int → Int → List (List Int)
  | 0, _, word, x, y => if x = 0 ∧ y = 0 then [word] else []
  | m + 1, S, word, x, y => ([110, 101, 115, 119] : List Int).flatMap (pieceW (walkW m) m S word x y)
def LoopsPost (acc : List (List Int)) (ws : List (List Int)) (O : Nat → Prop) (Inv : List (List Int) → (Nat → Prop) → World → Prop) (bm ms : Nat) (S : List (Int × Int)) (w : World) (e : Ending) (w' : World) : Prop :=
  e = .returned (.tuple #[]) ∧ ∃ O', Inv (acc ++ ws) O' w' ∧ FrameBut (fun k => O k ∨ k = bm) w w' ∧ (∀ k, O' k → O k ∨ w.heap.size ≤ k) ∧ MapIs w' Try.prog 43 bm ms cornV (inS S)
structure LoopsIn (w : World) (n : Int) (B2 B3 B4 B5 bm ge : Nat) (lbe : Array Value) (Kp : Nat → Prop) : Prop where
  c2 : w.cell? ⟨B2, 0, none⟩ = some (.int .i64 n)
  c3 : w.cell? ⟨B3, 0, none⟩ = some (.func (.func ge) #[] lbe)
  c4 : w.cell? ⟨B4, 0, none⟩ = some (.map (some bm))
  c5 : w.cell? ⟨B5, 0, none⟩ = some (.func (.func 31) #[] #[.pointer (some ⟨B2, 0, none⟩), .pointer (some ⟨B3, 0, none⟩), .pointer (some ⟨B4, 0, none⟩), .pointer (some ⟨B5, 0, none⟩)])
  k2 : Kp B2
  k3 : Kp B3
  k4 : Kp B4
  k5 : Kp B5
set_option maxRecDepth 100000 in
set_option maxHeartbeats 4000000 in
theorem loopsWalk_zero (ge : Nat) (lbe : Array Value) (max : Nat) (good : List Int → Prop) (Inv : List (List Int) → (Nat → Prop) → World → Prop) (C : CB Try.prog ge lbe (fun l => .string (strOfNums l)) good max Inv) (eg : ∀ args w, (callFunc ge args).run Try.prog w = .ok (.enter ge args) w)
    (n : Int) (B2 B3 B4 B5 bm : Nat) (S : List (Int × Int)) (ms : Nat) (word : List Int) (v : Value) (x y : Int) (acc : List (List Int)) (O Kp : Nat → Prop) (w : World)
    (hin : LoopsIn w n B2 B3 B4 B5 bm ge lbe Kp) (hO : ∀ k, O k → ¬ Kp k) (hbm : ¬ Kp bm) (hM : MapIs w Try.prog 43 bm ms cornV (inS S)) (hI : Inv acc O w) (hOb : ¬ O bm) (hw : Kd.R (Kd.int .u8) 5 w 0 Kp v word) (hl : (word.length : Int) = n) (hn : n ≤ 100)
    (hg : x = 0 ∧ y = 0 → good word) (hmax : acc.length < max) :
    Calls Try.prog 31 #[v, .agg #[.int .i64 x, .int .i64 y], .pointer (some ⟨B2, 0, none⟩), .pointer (some ⟨B3, 0, none⟩), .pointer (some ⟨B4, 0, none⟩), .pointer (some ⟨B5, 0, none⟩)] w (LoopsPost acc (walkW 0 S word x y) O Inv bm ms S w) := by
  obtain ⟨A, c, rfl⟩ := Kd.R_slice hw
  obtain ⟨c2, c3, c4, c5, k2, k3, k4, k5⟩ := hin
  have b2 := World.block_lt_of_cell? w _ c2
  have b3 := World.block_lt_of_cell? w _ c3
  have hl0 : n - (word.length : Int) = 0 := by omega
  have hs0 : ∀ W, Below w.heap.size w W → (convert 47 9 (.slice A word.length c)).run Try.prog W = .ok (.string (strOfNums word)) W := fun W hb => own_string Try.underlying47 Try.underlying5 Try.underlying9 (Kd.own_of_R (Kd.R_below hw (by exact hb)))
  by_cases hxy : x = 0 ∧ y = 0
  · obtain ⟨rfl, rfl⟩ := hxy
    have hs1 := hs0 (w.alloc (.cells #[.int .i64 0, .int .i64 0] 43)) (below_alloc (Below.refl _ _) _)
    clear hs0
    go_enter Try.func31, Try.ntmps31
    go_wp2_with ((go_at_fn ge; refine (C.call acc O _ word hmax (hg ⟨rfl, rfl⟩) ?xI).mono ?_; (case xI => exact C.below hI (below_alloc (Below.refl _ _) _)); rintro e w' ⟨rfl, O', hI', hF, hO'⟩))
    refine bodyPost_ret (v := .tuple #[]) (by simp [results, Try.results31, go_sem]) rfl ⟨rfl, O', ?_, ?_, ?_, ?_⟩
    · simpa [walkW] using hI'
    · exact (FrameBut.of_below (below_alloc (Below.refl _ _) _)).trans (hF.mono (fun k hk h => h)) (fun k h => .inl (.inl h))
    · exact fun k hk => (hO' k hk).imp id (fun h => by simp at h; omega)
    · exact hM.move (by rw [hF.block bm (by have := hM.lt; simp; omega) hOb, Below.heap_alloc _ _ _ hM.lt])
  · have hxy2 : (x == 0 && (y == 0)) = false := by rw [Bool.eq_false_iff]; intro h; simp at h; exact hxy h
    have hW : walkW 0 S word x y = [] := by simp [walkW, hxy]
    rw [hW]
    clear hxy hW hs0
    go_enter Try.func31, Try.ntmps31
    go_wp2_with fail
    refine bodyPost_ret (v := .tuple #[]) (by simp [results, Try.results31, go_sem]) rfl ⟨rfl, O, ?_, ?_, ?_, ?_⟩
    · rw [List.append_nil]; exact C.below hI (below_alloc (Below.refl _ _) _)
    · exact FrameBut.of_below (below_alloc (Below.refl _ _) _)
    · exact fun k hk => .inl hk
    · exact hM.alloc _
theorem lit1C (W : World) (d : Int) : Kd.C (Kd.int .u8) (W.alloc (.cells #[.int .u8 d] 5)) (some ⟨W.heap.size, 0, none⟩) 1 [d] :=
  (Kd.R_reads' (Kd.R_of_own (enc := Value.int .u8) (h1 := fun _ => rfl) (ok := fun _ => True) (own_lit W W.heap.size 5 .u8 [d] (Nat.le_refl _) (by simp)) (fun _ _ => trivial))).2.2
theorem flatMap_len {f : Int → List (List Int)} {b : Nat} (h : ∀ d, (f d).length ≤ b) : ∀ l : List Int, (l.flatMap f).length ≤ l.length * b
  | [] => by simp
  | d :: l => by
    have := flatMap_len h l
    have := h d
    simp only [List.flatMap_cons, List.length_append, List.length_cons, Nat.succ_mul]
    omega
theorem pieceW_len {F : List (Int × Int) → List Int → Int → Int → List (List Int)} {b : Nat} (h : ∀ S word x y, (F S word x y).length ≤ b) (m : Nat) (S : List (Int × Int)) (word : List Int) (x y d : Int) : (pieceW F m S word x y d).length ≤ b := by
  unfold pieceW
  split
  · exact h _ _ _ _
  · split
    · simp
    · exact h _ _ _ _
theorem walkW_len : ∀ m S word x y, (walkW m S word x y).length ≤ 4 ^ m
  | 0, S, word, x, y => by unfold walkW; split <;> simp
  | m + 1, S, word, x, y => by
    have := flatMap_len (pieceW_len (walkW_len m) m S word x y) [110, 101, 115, 119]
    unfold walkW
    simp only [List.length_cons, List.length_nil] at this
    rw [Nat.pow_succ]
    omega
def step4 : List Int := [110, 101, 115, 119]
def LoopsMid (acc : List (List Int)) (m : Nat) (word : List Int) (x y : Int) (O : Nat → Prop) (Inv : List (List Int) → (Nat → Prop) → World → Prop) (bm ms : Nat) (S : List (Int × Int)) (W0 : World) (kk : Nat) (wr : World) : Prop :=
  ∃ O', Inv (acc ++ (step4.take kk).flatMap (pieceW (walkW m) m S word x y)) O' wr ∧ FrameBut (fun k => O k ∨ k = bm) W0 wr ∧ (∀ k, O' k → O k ∨ W0.heap.size ≤ k) ∧ MapIs wr Try.prog 43 bm ms cornV (inS S)
theorem LoopsMid.next {acc : List (List Int)} {m : Nat} {word : List Int} {x y : Int} {O O1 O2 : Nat → Prop} {Inv : List (List Int) → (Nat → Prop) → World → Prop} {bm ms : Nat} {S : List (Int × Int)} {W0 wr w' : World} {kk : Nat} {PW T : List (List Int)}
    (hT : (step4.take (kk + 1)).flatMap (pieceW (walkW m) m S word x y) = T ++ PW) (hI : Inv (acc ++ T ++ PW) O2 w') (h2 : FrameBut (fun k => O k ∨ k = bm) W0 wr) (h3 : ∀ k, O1 k → O k ∨ W0.heap.size ≤ k) (hF : FrameBut (fun k => O1 k ∨ k = bm) wr w') (hO2 : ∀ k, O2 k → O1 k ∨ wr.heap.size ≤ k)
    (hM : MapIs w' Try.prog 43 bm ms cornV (inS S)) : LoopsMid acc m word x y O Inv bm ms S W0 (kk + 1) w' := by
  refine ⟨O2, by rw [hT, ← List.append_assoc]; exact hI, h2.trans hF (fun k hk => ?_), fun k hk => ?_, hM⟩
  · rcases hk with hk | hk
    · exact (h3 k hk).imp .inl id
    · exact .inl (.inr hk)
  · rcases hO2 k hk with hk | hk
    · exact h3 k hk
    · exact .inr (Nat.le_trans h2.size hk)
set_option maxRecDepth 100000 in
set_option maxHeartbeats 16000000 in
theorem loopsWalk_succ (ge : Nat) (lbe : Array Value) (max_ : Nat) (good : List Int → Prop) (Inv : List (List Int) → (Nat → Prop) → World → Prop) (C : CB Try.prog ge lbe (fun l => .string (strOfNums l)) good max_ Inv) (eg : ∀ args w, (callFunc ge args).run Try.prog w = .ok (.enter ge args) w)
    (m : Nat) (n : Int) (B2 B3 B4 B5 bm : Nat)
    (ih : ∀ (S : List (Int × Int)) (ms : Nat) (word : List Int) (v : Value) (x y : Int) (acc : List (List Int)) (O Kp : Nat → Prop) (w : World),
      LoopsIn w n B2 B3 B4 B5 bm ge lbe Kp → (∀ k, O k → ¬ Kp k) → ¬ Kp bm → MapIs w Try.prog 43 bm ms cornV (inS S) → Inv acc O w → ¬ O bm → Kd.R (Kd.int .u8) 5 w 0 Kp v word → (∀ k, Kp k → k < w.heap.size) → (0, 0) ∈ S → word ≠ [] → (word.length : Int) + m = n → n ≤ 100 → ms + m ≤ 1000 →
      -1000 + (m : Int) ≤ x → x ≤ 1000 - (m : Int) → -1000 + (m : Int) ≤ y → y ≤ 1000 - (m : Int) → (∀ z ∈ walkW m S word x y, good z) → acc.length + 4 ^ m ≤ max_ →
      Calls Try.prog 31 #[v, .agg #[.int .i64 x, .int .i64 y], .pointer (some ⟨B2, 0, none⟩), .pointer (some ⟨B3, 0, none⟩), .pointer (some ⟨B4, 0, none⟩), .pointer (some ⟨B5, 0, none⟩)] w (LoopsPost acc (walkW m S word x y) O Inv bm ms S w))
    (S : List (Int × Int)) (ms : Nat) (word : List Int) (v : Value) (x y : Int) (acc : List (List Int)) (O Kp : Nat → Prop) (w : World)
    (hin : LoopsIn w n B2 B3 B4 B5 bm ge lbe Kp) (hO : ∀ k, O k → ¬ Kp k) (hbm : ¬ Kp bm) (hM : MapIs w Try.prog 43 bm ms cornV (inS S)) (hI : Inv acc O w) (hOb : ¬ O bm) (hw : Kd.R (Kd.int .u8) 5 w 0 Kp v word) (hKp : ∀ k, Kp k → k < w.heap.size) (h00 : (0, 0) ∈ S) (hne : word ≠ []) (hl : (word.length : Int) + (m + 1 : Nat) = n) (hn : n ≤ 100) (hms : ms + (m + 1) ≤ 1000)
    (hx1 : -1000 + ((m + 1 : Nat) : Int) ≤ x) (hx2 : x ≤ 1000 - ((m + 1 : Nat) : Int)) (hy1 : -1000 + ((m + 1 : Nat) : Int) ≤ y) (hy2 : y ≤ 1000 - ((m + 1 : Nat) : Int)) (hg : ∀ z ∈ walkW (m + 1) S word x y, good z) (hmax : acc.length + 4 ^ (m + 1) ≤ max_) :
    Calls Try.prog 31 #[v, .agg #[.int .i64 x, .int .i64 y], .pointer (some ⟨B2, 0, none⟩), .pointer (some ⟨B3, 0, none⟩), .pointer (some ⟨B4, 0, none⟩), .pointer (some ⟨B5, 0, none⟩)] w (LoopsPost acc (walkW (m + 1) S word x y) O Inv bm ms S w) := by
  obtain ⟨A, c, rfl⟩ := Kd.R_slice hw
  have HIN := Aside0.mk hin
  obtain ⟨c2, c3, c4, c5, k2, k3, k4, k5⟩ := hin
  have b2 := World.block_lt_of_cell? w _ c2
  have b3 := World.block_lt_of_cell? w _ c3
  have b4 := World.block_lt_of_cell? w _ c4
  have b5 := World.block_lt_of_cell? w _ c5
  have hl0 : n - (word.length : Int) = (m : Int) + 1 := by omega
  have hl1 : (((m : Int) + 1) == 0) = false := by rw [beq_eq_false_iff_ne]; omega
  have hconv : (convert 47 47 (.slice (some ⟨w.heap.size + 1, 0, none⟩) 4 4)).run Try.prog ((w.alloc (.cells #[.int .i64 x, .int .i64 y] 43)).alloc (.cells #[.int .u8 110, .int .u8 101, .int .u8 115, .int .u8 119] 5)) =
      .ok (.slice (some ⟨w.heap.size + 1, 0, none⟩) 4 4) ((w.alloc (.cells #[.int .i64 x, .int .i64 y] 43)).alloc (.cells #[.int .u8 110, .int .u8 101, .int .u8 115, .int .u8 119] 5 (4, 5))) := by
    have := Go.Lib.run_convert_bytes_const (P := Try.prog) (w.alloc (.cells #[.int .i64 x, .int .i64 y] 43)) 47 5 #[.int .u8 110, .int .u8 101, .int .u8 115, .int .u8 119] 4 4 Try.underlying47 Try.underlying5
    simpa using this
  have H0 : Aside0 (LoopsMid acc m word x y O Inv bm ms S ((w.alloc (.cells #[.int .i64 x, .int .i64 y] 43)).alloc (.cells #[.int .u8 110, .int .u8 101, .int .u8 115, .int .u8 119] 5 (4, 5))) 0 ((w.alloc (.cells #[.int .i64 x, .int .i64 y] 43)).alloc (.cells #[.int .u8 110, .int .u8 101, .int .u8 115, .int .u8 119] 5 (4, 5)))) :=
    ⟨O, by simpa using C.below hI (below_alloc (below_alloc (Below.refl _ _) _) _), FrameBut.refl _ _, fun k hk => .inl hk, (hM.alloc _).alloc _⟩
  have hB0 := Aside0.mk (below_alloc (below_alloc (Below.refl w.heap.size w) (.cells #[.int .i64 x, .int .i64 y] 43)) (.cells #[.int .u8 110, .int .u8 101, .int .u8 115, .int .u8 119] 5 (4, 5)))
  have HM := Aside0.mk hM
  have HI := Aside0.mk hI
  have HW := Aside0.mk hw
  have HL := Aside0.mk hl
  have HG := Aside0.mk hg
  have HO := Aside0.mk hO
  have IH := Aside0.mk ih
  clear hM hI hw hl hg hO ih
  go_enter Try.func31, Try.ntmps31
  go_wp2_with fail
  go_loopg [30] 4 (fun gg s30 wr => ∃ kk : Nat, kk ≤ 4 ∧ 4 - kk ≤ gg ∧ s30 = .int .i64 kk ∧ Aside0 (LoopsMid acc m word x y O Inv bm ms S ((w.alloc (.cells #[.int .i64 x, .int .i64 y] 43)).alloc (.cells #[.int .u8 110, .int .u8 101, .int .u8 115, .int .u8 119] 5 (4, 5))) kk wr))
  case atStart => exact ⟨0, by omega, by omega, rfl, H0⟩
  case round =>
    clear H0 hconv
    obtain ⟨kk, hkk, hgg, rfl, HMid⟩ := hrel
    by_cases hlt : kk < 4
    · have hltz : (kk : Int) < 4 := by omega
      have hk0 : (0 : Int) ≤ (kk : Int) := by omega
      obtain ⟨d, hd⟩ : ∃ d, step4[kk]? = some d := ⟨step4[kk]'(by simpa [step4] using hlt), List.getElem?_eq_getElem _⟩
      have hd4 : d = 110 ∨ d = 101 ∨ d = 115 ∨ d = 119 := by
        have : d ∈ step4 := List.mem_of_getElem? hd
        simpa [step4] using this
      have hT : (step4.take (kk + 1)).flatMap (pieceW (walkW m) m S word x y) = (step4.take kk).flatMap (pieceW (walkW m) m S word x y) ++ pieceW (walkW m) m S word x y d := by
        rw [List.take_add_one, hd]
        simp
      have hpg : ∀ z ∈ pieceW (walkW m) m S word x y d, good z := fun z hz => HG.out z (by
        show z ∈ step4.flatMap _
        exact List.mem_flatMap.2 ⟨d, List.mem_of_getElem? hd, hz⟩)
      have hN : impl_Corner_next.f x y d = some (nx4 x d, ny4 y d) := by
        rcases hd4 with rfl | rfl | rfl | rfl <;> simp [impl_Corner_next.f, nx4, ny4, wrap64] <;> omega
      have hnx1 : -1000 + (m : Int) ≤ nx4 x d := by rcases hd4 with rfl | rfl | rfl | rfl <;> simp [nx4] <;> omega
      have hnx2 : nx4 x d ≤ 1000 - (m : Int) := by rcases hd4 with rfl | rfl | rfl | rfl <;> simp [nx4] <;> omega
      have hny1 : -1000 + (m : Int) ≤ ny4 y d := by rcases hd4 with rfl | rfl | rfl | rfl <;> simp [ny4] <;> omega
      have hny2 : ny4 y d ≤ 1000 - (m : Int) := by rcases hd4 with rfl | rfl | rfl | rfl <;> simp [ny4] <;> omega
      have hdu : 0 ≤ d ∧ d ≤ 255 := by rcases hd4 with rfl | rfl | rfl | rfl <;> omega
      obtain ⟨O', h1, h2, h3, h4⟩ := HMid.out
      clear HMid
      have nO : ∀ b, Kp b → ¬ (O b ∨ b = bm) := fun b hk h => h.elim (fun h => HO.out b h hk) (fun h => hbm (h ▸ hk))
      have hwlt := hB0.out
      have z2 := h2.cell (pw_cell_below hB0.out c2) (nO _ k2)
      have z3 := h2.cell (pw_cell_below hB0.out c3) (nO _ k3)
      have z4 := h2.cell (pw_cell_below hB0.out c4) (nO _ k4)
      have z5 := h2.cell (pw_cell_below hB0.out c5) (nO _ k5)
      have nN : ∀ b, w.heap.size ≤ b → ¬ (O b ∨ b = bm) := fun b hk h => h.elim (fun h => absurd (C.lt acc O w HI.out b h) (by omega)) (fun h => absurd HM.out.lt (by omega))
      have zx := h2.cell (b := w.heap.size) (i := 0) (v := .int .i64 x) (by ((repeat (first | rw [World.cell?_alloc_at _ _ _ _ (by simp; done)] | rw [World.cell?_alloc_past _ _ _ (by simp <;> omega)])); rfl)) (nN _ (Nat.le_refl _))
      have zy := h2.cell (b := w.heap.size) (i := 1) (v := .int .i64 y) (by ((repeat (first | rw [World.cell?_alloc_at _ _ _ _ (by simp; done)] | rw [World.cell?_alloc_past _ _ _ (by simp <;> omega)])); rfl)) (nN _ (Nat.le_refl _))
      have zd := h2.cell (b := w.heap.size + 1) (i := kk) (v := .int .u8 d) (by
        have hh : ((w.alloc (.cells #[.int .i64 x, .int .i64 y] 43)).alloc (.cells #[.int .u8 110, .int .u8 101, .int .u8 115, .int .u8 119] 5 (4, 5))).heap[w.heap.size + 1]? = some (.cells #[.int .u8 110, .int .u8 101, .int .u8 115, .int .u8 119] 5 (4, 5)) := by
          have := heap_alloc_new (w.alloc (.cells #[.int .i64 x, .int .i64 y] 43)) (.cells #[.int .u8 110, .int .u8 101, .int .u8 115, .int .u8 119] 5 (4, 5))
          simpa using this
        rw [cell_of_row _ (w.heap.size + 1) kk _ _ (4, 5) hh]
        have hq : kk = 0 ∨ kk = 1 ∨ kk = 2 ∨ kk = 3 := by omega
        rcases hq with rfl | rfl | rfl | rfl <;> simp [step4] at hd <;> subst hd <;> rfl) (nN _ (by omega))
      have hN' := Aside0.mk hN
      have HT := Aside0.mk hT
      have HPG := Aside0.mk hpg
      have H1 := Aside0.mk h1
      have H2 := Aside0.mk h2
      have H3 := Aside0.mk h3
      have H4 := Aside0.mk h4
      have hpi : Aside0 (pieceW (walkW m) m S word x y d = if nx4 x d = 0 ∧ ny4 y d = 0 ∧ m = 0 then walkW m S (word ++ [d]) (nx4 x d) (ny4 y d) else if (nx4 x d, ny4 y d) ∈ S ∨ ny4 y d < 0 ∨ (ny4 y d = 0 ∧ nx4 x d < 0) ∨ (m : Int) + 1 ≤ max (nx4 x d) (-(nx4 x d)) + ny4 y d then [] else walkW m ((nx4 x d, ny4 y d) :: S) (word ++ [d]) (nx4 x d) (ny4 y d)) := ⟨rfl⟩
      clear hN hT hpg h1 h2 h3 h4 hd hd4
      generalize pieceW (walkW m) m S word x y d = PW at HT HPG hpi
      generalize nx4 x d = nx at hN' hnx1 hnx2 hpi
      generalize ny4 y d = ny at hN' hny1 hny2 hpi
      have key := Aside0.mk (cornKey nx ny (i64_wf nx (by omega) (by omega)) (i64_wf ny (by omega) (by omega)))
      by_cases hhome : nx = 0 ∧ ny = 0 ∧ m = 0
      · obtain ⟨rfl, rfl, rfl⟩ := hhome
        have hP : Aside0 (PW = walkW 0 S (word ++ [d]) 0 0) := ⟨by rw [hpi.out, if_pos ⟨rfl, rfl, rfl⟩]⟩
        have HKP := Aside0.mk hKp
        have H00 := Aside0.mk h00
        have hl0' : n - (word.length : Int) = 1 := by have := HL.out; omega
        clear hpi hKp hl0 hl1 h00
        have h00 := H00.out
        go_wp2_with ((go_at_call 32; (with_reducible refine (impl_Corner_next.calls x y d 0 0 _ hN'.out).mono ?_); rintro e w3 ⟨rfl, hbw⟩; have y4 := pw_cell_below hbw z4; have b4w := World.block_lt_of_cell? w3 _ y4))
        have hlk : True := trivial
        generalize hw5_ : w3.alloc (.cells #[.int .i64 0, .int .i64 0] 43) = w5
        have hw5 := hw5_.symm
        have hM5 : Aside0 (MapIs w5 Try.prog 43 bm ms cornV (inS S)) := ⟨by rw [hw5]; exact (H4.out.below hbw).alloc _⟩
        clear hw5_
        have b5 := World.block_lt_of_cell? w _ c5
        have F4 : Below wr.heap.size wr (w3.alloc (.cells #[.int .i64 0, .int .i64 0] 43)) := below_alloc hbw _
        have hbm4 := H4.out.lt
        have F5 : FrameBut (fun k => k = bm) (w3.alloc (.cells #[.int .i64 0, .int .i64 0] 43)) w5 := by rw [hw5]; exact FrameBut.refl _ _
        have G5 : FrameBut (fun k => k = bm) wr w5 := (FrameBut.of_below F4).trans F5 (fun k h => .inl h)
        have hs3 := hbw.size
        have HW5e := Aside0.mk hw5
        clear hw5
        have hs5 : w3.heap.size + 1 ≤ w5.heap.size := by have := F5.size; simp at this; omega
        have q2 := G5.cell z2 (fun h => nO _ k2 (.inr h))
        have q3 := G5.cell z3 (fun h => nO _ k3 (.inr h))
        have q4 := G5.cell z4 (fun h => nO _ k4 (.inr h))
        have q5 := G5.cell z5 (fun h => nO _ k5 (.inr h))
        have qx := F5.cell (b := w3.heap.size) (i := 0) (v := .int .i64 0) (World.cell?_alloc_at _ _ _ _ rfl) (fun h => by omega)
        have qy := F5.cell (b := w3.heap.size) (i := 1) (v := .int .i64 0) (World.cell?_alloc_at _ _ _ _ rfl) (fun h => by omega)
        have HW5 : Aside0 (Kd.R (Kd.int .u8) 5 w5 0 Kp (.slice A word.length c) word) := ⟨Kd.R_move HW.out (fun k hk => by
          have h1 := hB0.out.block k (HKP.out k hk)
          have h2 := H2.out.block k (Nat.lt_of_lt_of_le (HKP.out k hk) hB0.out.size) (nO k hk)
          have h3 := G5.block k (Nat.lt_of_lt_of_le (Nat.lt_of_lt_of_le (HKP.out k hk) hB0.out.size) H2.out.size) (fun h => nO k hk (.inr h))
          rw [h3, h2, h1])⟩
        obtain ⟨ga, eA, -⟩ := Kd.at_int (Kd.R_reads' HW5.out).2.2 0 (by omega) (by have := List.length_pos_iff.2 hne; omega)
        cases eA
        have hWL : word.length ≤ 1000000 := by have := HL.out; omega
        have HCall : ∀ Wc v1, Aside0 (Below w5.heap.size w5 Wc) → Kd.R (Kd.int .u8) 5 Wc w5.heap.size (fun _ => True) v1 (word ++ [d]) → Calls Try.prog 31 #[v1, .agg #[.int .i64 0, .int .i64 0], .pointer (some ⟨B2, 0, none⟩), .pointer (some ⟨B3, 0, none⟩), .pointer (some ⟨B4, 0, none⟩), .pointer (some ⟨B5, 0, none⟩)] Wc (LoopsPost (acc ++ (step4.take kk).flatMap (pieceW (walkW 0) 0 S word x y)) (walkW 0 (S) (word ++ [d]) 0 0) O' Inv bm ms (S) Wc) := fun Wc v1 hb hr => by
          have hbo := hb.out
          refine IH.out (S) ms (word ++ [d]) v1 0 0 _ O' (fun k => Kp k ∨ k = w3.heap.size ∨ (w5.heap.size ≤ k ∧ k < Wc.heap.size)) Wc ⟨pw_cell_below hbo q2, pw_cell_below hbo q3, pw_cell_below hbo q4, pw_cell_below hbo q5, .inl k2, .inl k3, .inl k4, .inl k5⟩ (fun k hk h => ?_) (fun h => ?_) ((hM5.out).below hbo) ?_ (fun h => ?_) ?_ (fun k hk => ?_) h00 (by simp) ?_ hn (by omega) hnx1 hnx2 hny1 hny2 ?_ ?_
          · have hlt := C.lt _ _ _ H1.out k hk
            rcases h with h | h | h
            · rcases H3.out k hk with h4 | h4
              · exact HO.out k h4 h
              · exact absurd (HKP.out k h) (by have := hB0.out.size; omega)
            · omega
            · omega
          · rcases h with h | h | h
            · exact hbm h
            · omega
            · omega
          · exact C.below (C.frame H1.out G5 (fun k hk h => by subst h; exact (H3.out k hk).elim hOb (fun h => absurd HM.out.lt (by have := hB0.out.size; omega)))) hbo
          · exact (H3.out bm h).elim hOb (fun h => absurd HM.out.lt (by have := hB0.out.size; omega))
          · exact Kd.R_lower (Kd.R_mono (Kd.R_bound hr) (fun k hk => .inr (.inr ⟨hk.2.1, hk.2.2.1⟩))) (Nat.zero_le _)
          · have := hbo.size
            rcases hk with h | h | h
            · have := HKP.out k h; have := hB0.out.size; have := H2.out.size; omega
            · omega
            · exact h.2
          · have := HL.out; simp; omega
          · intro z hz
            exact HPG.out z (by rw [hP.out]; exact hz)
          · have h1 := flatMap_len (pieceW_len (walkW_len 0) 0 S word x y) (step4.take kk)
            have h2 : (step4.take kk).length ≤ 3 := by rw [List.length_take]; omega
            have h3 : (step4.take kk).length * 4 ^ 0 ≤ 3 * 4 ^ 0 := Nat.mul_le_mul_right _ h2
            rw [Nat.pow_succ] at hmax
            simp only [List.length_append]
            omega
        have HC5 := Aside0.mk (Kd.R_reads' HW5.out).2.2
        have HC6 := Aside0.mk HCall
        clear HCall
        have hi5 : (Try.prog.info? 5).map (fun i => (i.zero, i.size, i.bytes)) = some (some (.int .u8 0), 1, 1) := by kernel_rfl
        have nb5 : ∀ O'' : Nat → Prop, True := fun _ => trivial
        have e9 : ∀ (O'' : Nat → Prop) (b : Nat), (O'' = O' → b < w5.heap.size → ¬ (O' b ∨ b = bm) → True) := fun _ _ _ _ _ => trivial
        have n5 : ¬ (O' B5 ∨ B5 = bm) := fun h => h.elim (fun h => (H3.out _ h).elim (fun h => HO.out _ h k5) (fun h => absurd b5 (by have := hB0.out.size; omega))) (fun h => hbm (h ▸ k5))
        have n4 : ¬ (O' B4 ∨ B4 = bm) := fun h => h.elim (fun h => (H3.out _ h).elim (fun h => HO.out _ h k4) (fun h => absurd b4 (by have := hB0.out.size; omega))) (fun h => hbm (h ▸ k4))
        have nx5 : ¬ (O' w3.heap.size ∨ w3.heap.size = bm) := fun h => h.elim (fun h => absurd (C.lt _ _ _ H1.out _ h) (by omega)) (fun h => by omega)
        clear nb5 e9
        generalize hFV : (Value.func (Fn.func 31) #[] #[.pointer (some ⟨B2, 0, none⟩), .pointer (some ⟨B3, 0, none⟩), .pointer (some ⟨B4, 0, none⟩), .pointer (some ⟨B5, 0, none⟩)]) = FV at q5
        subst hFV
        go_region_held3 (fun w' => w'.cell? ⟨B5, 0, none⟩ = some (.func (.func 31) #[] #[.pointer (some ⟨B2, 0, none⟩), .pointer (some ⟨B3, 0, none⟩), .pointer (some ⟨B4, 0, none⟩), .pointer (some ⟨B5, 0, none⟩)]) ∧ w'.cell? ⟨w3.heap.size, 0, none⟩ = some (.int .i64 0) ∧ w'.cell? ⟨w3.heap.size, 1, none⟩ = some (.int .i64 0))
          (first
            | exact ⟨q5, qx, qy⟩
            | exact ⟨HF9.cell (pw_cell_below hbA q5) n5, HF9.cell (pw_cell_below hbA qx) nx5, HF9.cell (pw_cell_below hbA qy) nx5⟩
            | exact ⟨pw_cell_below hbA q5, pw_cell_below hbA qx, pw_cell_below hbA qy⟩
            | (go_split_ands; exact ⟨pw_cell_below hbx (by assumption), pw_cell_below hbx (by assumption), pw_cell_below hbx (by assumption)⟩)
            | (go_split_ands; exact ⟨pw_cell_below (below_alloc (Below.refl _ _) _) (by assumption), pw_cell_below (below_alloc (Below.refl _ _) _) (by assumption), pw_cell_below (below_alloc (Below.refl _ _) _) (by assumption)⟩))
          (first
            | (go_at_call 33; refine (cloneB_any ga c word _ (by first | exact Kd.C_drew HC5.out | exact Kd.C_drew (Kd.C_alloc HC5.out _)) hWL).mono ?_; rintro e wx ⟨vx, rfl, hox, hbx⟩)
            | (refine Kd.R_append_rows_step (Kd.int .u8) (Rr := (Kd.int .u8).K w5) (w0 := w5) w5.heap.size (by rfl) _ _ 47 5 (.int .u8 0) 1 rfl Try.underlying47 hi5 rfl (by decide) (by decide) vx word [d] _ _ _ (fun _ => True) (fun _ => False) rfl rfl ?xO ?xR (fun _ _ h => h) (fun _ h => h.elim) (fun _ _ => trivial) ?xB ?xS ?xL ?_; (case xO => first | exact Kd.R_lower (Kd.R_alloc hox _) (by first | exact Nat.le_refl _ | simp) | exact Kd.R_lower hox (by first | exact Nat.le_refl _ | simp)); (case xR => first | exact lit1C _ d | exact Kd.C_below (Kd.C_drew (lit1C _ d)) hbx); (case xB => first | exact below_alloc (below_step (below_drew (Below.refl _ _)) hbx) _ | exact below_step (below_drew (below_alloc (Below.refl _ _) _)) hbx); (case xS => have hz_ := hbx.size; simp at hz_; simp; omega); (case xL => omega); intro v1 w1 hr1_ hbA hg1_ ha1_; have HRA := Aside0.mk hr1_; clear hr1_ hg1_ ha1_)
            | (go_at_call 31; refine (HC6.out _ _ ⟨hbA⟩ HRA.out).mono ?_; rintro e w9 ⟨rfl, O9, hI9, HF9, hO9, hM9⟩))
        all_goals
          have hbmO : ¬ O' bm := fun h => (H3.out bm h).elim hOb (fun h => absurd HM.out.lt (by have := hB0.out.size; omega))
          have hbAs := hbA.size
          have I10 := Aside0.mk hI9
          have G10 := Aside0.mk (((G5.mono (O1 := fun k => O' k ∨ k = bm) (fun k _ h => .inr h)).below (hbA.mono (Nat.le_refl _))).trans HF9 (fun k h => .inl h))
          have O10 : Aside0 (∀ k, O9 k → O' k ∨ wr.heap.size ≤ k) := ⟨fun k hk => (hO9 k hk).imp id (fun h => by have := G5.size; omega)⟩
          have M10 := Aside0.mk hM9
          clear hI9 HF9 hO9 hM9 hlk
          go_wp2
          go_roundg (4 - (kk + 1))
          case measure => omega
          case rel => exact ⟨kk + 1, by omega, by omega, by go_num, ⟨LoopsMid.next HT.out (by rw [hP.out]; exact I10.out) H2.out H3.out G10.out O10.out M10.out⟩⟩
      · by_cases hbad : (nx, ny) ∈ S ∨ ny < 0 ∨ (ny = 0 ∧ nx < 0) ∨ (m : Int) + 1 ≤ max nx (-nx) + ny
        · have hP : Aside0 (PW = []) := ⟨by rw [hpi.out, if_neg hhome, if_pos hbad]⟩
          obtain ⟨mx, hmx⟩ : ∃ mx, (if nx < -nx then -nx else nx) = mx := ⟨_, rfl⟩
          have hbc : (decide ((nx, ny) ∈ S) = true ∧ ((nx == 0 && (ny == 0)) = false ∨ ((nx = 0 ∧ ny = 0) ∧ ¬ m = 0))) ∨
              ((nx == 0 && (ny == 0)) = false ∧ decide ((nx, ny) ∈ S) = false ∧ (ny < 0 ∨ (¬ ny < 0 ∧ (((ny == 0) = true ∧ (nx == 0) = false ∧ nx < 0) ∨
                (((ny == 0) = false ∨ ((ny == 0) = true ∧ (nx == 0) = false ∧ ¬ nx < 0)) ∧ (m : Int) + 1 ≤ mx + ny))))) := by
            by_cases ha : (nx, ny) ∈ S
            · refine .inl ⟨decide_eq_true ha, ?_⟩
              rcases Bool.eq_false_or_eq_true (nx == 0 && (ny == 0)) with h | h
              · simp at h
                exact .inr ⟨h, fun hm => hhome ⟨h.1, h.2, hm⟩⟩
              · exact .inl h
            · have h0 : (nx == 0 && (ny == 0)) = false := by
                rw [Bool.eq_false_iff]; intro h; simp at h; obtain ⟨rfl, rfl⟩ := h; exact ha h00
              refine .inr ⟨h0, decide_eq_false ha, ?_⟩
              by_cases hb : ny < 0
              · exact .inl hb
              · refine .inr ⟨hb, ?_⟩
                by_cases hc : ny = 0 ∧ nx < 0
                · exact .inl ⟨by simp [hc.1], by rw [beq_eq_false_iff_ne]; omega, hc.2⟩
                · have hd : (m : Int) + 1 ≤ max nx (-nx) + ny := by rcases hbad with h | h | h | h <;> first | exact absurd h ha | exact absurd h hb | exact absurd h hc | exact h
                  refine .inr ⟨?_, ?_⟩
                  · by_cases he : ny = 0
                    · exact .inr ⟨by simp [he], by rw [beq_eq_false_iff_ne]; intro hz; rw [hz, he] at h0; simp at h0, fun h => hc ⟨he, h⟩⟩
                    · exact .inl (by simp [he])
                  · subst hmx; split <;> omega
          clear hhome hbad hpi h00
          rcases hbc with ⟨hS, hh1 | ⟨⟨rfl, rfl⟩, hh2⟩⟩ | ⟨hh1, hS, hb1 | ⟨hb1, ⟨hb2, hb3, hb4⟩ | ⟨hb2 | ⟨hb2, hb3, hb5⟩, hb6⟩⟩⟩
          rotate_left
          · clear hmx
            have hm2 : (((m : Int) + 1) == 1) = false := by rw [beq_eq_false_iff_ne]; omega
            go_wp2_with ((go_at_call 32; (with_reducible refine (impl_Corner_next.calls x y d 0 0 _ hN'.out).mono ?_); rintro e w3 ⟨rfl, hb3⟩; have hlk := lookS ((H4.out.below hb3).alloc (.cells #[.int .i64 0, .int .i64 0] 43)) key.out _ hS; have y4 := pw_cell_below hb3 z4; have b4w := World.block_lt_of_cell? w3 _ y4))
            all_goals first
              | (go_roundg (4 - (kk + 1))
                 case measure => omega
                 case rel => exact ⟨kk + 1, by omega, by omega, by go_num, ⟨LoopsMid.next HT.out (by rw [hP.out, List.append_nil]; exact C.below H1.out (below_alloc hb3 _)) H2.out H3.out (FrameBut.of_below (below_alloc hb3 _)) (fun k hk => .inl hk) ((H4.out.below hb3).alloc _)⟩⟩)
              | (exfalso; rename_i hp hq; simp only [Bool.not_eq_eq_eq_not, Bool.not_false, beq_iff_eq] at hq; exact hp hq)
              | (exfalso; rename_i hq; simp at hq; omega)
              | (exfalso; omega)
          all_goals
            go_wp2_with ((go_at_call 32; (with_reducible refine (impl_Corner_next.calls x y d nx ny _ hN'.out).mono ?_); rintro e w3 ⟨rfl, hbw⟩; have hlk := lookS ((H4.out.below hbw).alloc (.cells #[.int .i64 nx, .int .i64 ny] 43)) key.out _ hS; have y4 := pw_cell_below hbw z4; have b4w := World.block_lt_of_cell? w3 _ y4))
            all_goals first
              | (go_roundg (4 - (kk + 1))
                 case measure => omega
                 case rel => exact ⟨kk + 1, by omega, by omega, by go_num, ⟨LoopsMid.next HT.out (by rw [hP.out, List.append_nil]; exact C.below H1.out (below_alloc hbw _)) H2.out H3.out (FrameBut.of_below (below_alloc hbw _)) (fun k hk => .inl hk) ((H4.out.below hbw).alloc _)⟩⟩)
              | (exfalso; rename_i hq; simp at hq; omega)
              | (exfalso; omega)
        · have hS : decide ((nx, ny) ∈ S) = false := decide_eq_false (fun h => hbad (.inl h))
          have hSn : (nx, ny) ∉ S := fun h => hbad (.inl h)
          have hh1 : (nx == 0 && (ny == 0)) = false := by
            rw [Bool.eq_false_iff]; intro h; simp at h; obtain ⟨rfl, rfl⟩ := h; exact hSn h00
          have hb1 : ¬ ny < 0 := fun h => hbad (.inr (.inl h))
          have hbc : ((ny == 0) = false ∨ ((ny == 0) = true ∧ (nx == 0) = false ∧ ¬ nx < 0)) := by
            by_cases he : ny = 0
            · exact .inr ⟨by simp [he], by rw [beq_eq_false_iff_ne]; intro hz; rw [hz, he] at hSn; exact hSn h00, fun h => hbad (.inr (.inr (.inl ⟨he, h⟩)))⟩
            · exact .inl (by simp [he])
          obtain ⟨mx, hmx⟩ : ∃ mx, (if nx < -nx then -nx else nx) = mx := ⟨_, rfl⟩
          have hb5 : ¬ (m : Int) + 1 ≤ mx + ny := fun h => hbad (.inr (.inr (.inr (by subst hmx; split at h <;> omega))))
          have hP : Aside0 (PW = walkW m ((nx, ny) :: S) (word ++ [d]) nx ny) := ⟨by rw [hpi.out, if_neg hhome, if_neg hbad]⟩
          have HSN := Aside0.mk hSn
          have HKP := Aside0.mk hKp
          have h00' : Aside0 ((0, 0) ∈ (nx, ny) :: S) := ⟨List.mem_cons_of_mem _ h00⟩
          clear hhome hbad hpi h00 hSn hKp
          rcases hbc with hb2 | ⟨hb2, hb3, hb4⟩
          all_goals
            go_wp2_with ((go_at_call 32; (with_reducible refine (impl_Corner_next.calls x y d nx ny _ hN'.out).mono ?_); rintro e w3 ⟨rfl, hbw⟩; have hlk := lookS ((H4.out.below hbw).alloc (.cells #[.int .i64 nx, .int .i64 ny] 43)) key.out _ hS; have y4 := pw_cell_below hbw z4; have b4w := World.block_lt_of_cell? w3 _ y4; obtain ⟨w5, hst, hM5, ht5⟩ := storeS ((H4.out.below hbw).alloc (.cells #[.int .i64 nx, .int .i64 ny] 43)) key.out HSN.out (by omega)))
            have b5 := World.block_lt_of_cell? w _ c5
            have F4 : Below wr.heap.size wr (w3.alloc (.cells #[.int .i64 nx, .int .i64 ny] 43)) := below_alloc hbw _
            have hbm4 := H4.out.lt
            have F5 : FrameBut (fun k => k = bm) (w3.alloc (.cells #[.int .i64 nx, .int .i64 ny] 43)) w5 := (FrameBut.refl _ _).turned ht5 (.inl rfl)
            have G5 : FrameBut (fun k => k = bm) wr w5 := (FrameBut.of_below F4).trans F5 (fun k h => .inl h)
            have hs3 := hbw.size
            have hs5 : w3.heap.size + 1 ≤ w5.heap.size := by have := F5.size; simp at this; omega
            have q2 := G5.cell z2 (fun h => nO _ k2 (.inr h))
            have q3 := G5.cell z3 (fun h => nO _ k3 (.inr h))
            have q4 := G5.cell z4 (fun h => nO _ k4 (.inr h))
            have q5 := G5.cell z5 (fun h => nO _ k5 (.inr h))
            have qx := F5.cell (b := w3.heap.size) (i := 0) (v := .int .i64 nx) (World.cell?_alloc_at _ _ _ _ rfl) (fun h => by omega)
            have qy := F5.cell (b := w3.heap.size) (i := 1) (v := .int .i64 ny) (World.cell?_alloc_at _ _ _ _ rfl) (fun h => by omega)
            have HW5 : Aside0 (Kd.R (Kd.int .u8) 5 w5 0 Kp (.slice A word.length c) word) := ⟨Kd.R_move HW.out (fun k hk => by
              have h1 := hB0.out.block k (HKP.out k hk)
              have h2 := H2.out.block k (Nat.lt_of_lt_of_le (HKP.out k hk) hB0.out.size) (nO k hk)
              have h3 := G5.block k (Nat.lt_of_lt_of_le (Nat.lt_of_lt_of_le (HKP.out k hk) hB0.out.size) H2.out.size) (fun h => nO k hk (.inr h))
              rw [h3, h2, h1])⟩
            obtain ⟨ga, eA, -⟩ := Kd.at_int (Kd.R_reads' HW5.out).2.2 0 (by omega) (by have := List.length_pos_iff.2 hne; omega)
            cases eA
            have hWL : word.length ≤ 1000000 := by have := HL.out; omega
            have HCall : ∀ Wc v1, Aside0 (Below w5.heap.size w5 Wc) → Kd.R (Kd.int .u8) 5 Wc w5.heap.size (fun _ => True) v1 (word ++ [d]) → Calls Try.prog 31 #[v1, .agg #[.int .i64 nx, .int .i64 ny], .pointer (some ⟨B2, 0, none⟩), .pointer (some ⟨B3, 0, none⟩), .pointer (some ⟨B4, 0, none⟩), .pointer (some ⟨B5, 0, none⟩)] Wc (LoopsPost (acc ++ (step4.take kk).flatMap (pieceW (walkW m) m S word x y)) (walkW m ((nx, ny) :: S) (word ++ [d]) nx ny) O' Inv bm (ms + 1) ((nx, ny) :: S) Wc) := fun Wc v1 hb hr => by
              have hbo := hb.out
              refine IH.out ((nx, ny) :: S) (ms + 1) (word ++ [d]) v1 nx ny _ O' (fun k => Kp k ∨ k = w3.heap.size ∨ (w5.heap.size ≤ k ∧ k < Wc.heap.size)) Wc ⟨pw_cell_below hbo q2, pw_cell_below hbo q3, pw_cell_below hbo q4, pw_cell_below hbo q5, .inl k2, .inl k3, .inl k4, .inl k5⟩ (fun k hk h => ?_) (fun h => ?_) (hM5.below hbo) ?_ (fun h => ?_) ?_ (fun k hk => ?_) h00'.out (by simp) ?_ hn (by omega) hnx1 hnx2 hny1 hny2 ?_ ?_
              · have hlt := C.lt _ _ _ H1.out k hk
                rcases h with h | h | h
                · rcases H3.out k hk with h4 | h4
                  · exact HO.out k h4 h
                  · exact absurd (HKP.out k h) (by have := hB0.out.size; omega)
                · omega
                · omega
              · rcases h with h | h | h
                · exact hbm h
                · omega
                · omega
              · exact C.below (C.frame H1.out G5 (fun k hk h => by subst h; exact (H3.out k hk).elim hOb (fun h => absurd HM.out.lt (by have := hB0.out.size; omega)))) hbo
              · exact (H3.out bm h).elim hOb (fun h => absurd HM.out.lt (by have := hB0.out.size; omega))
              · exact Kd.R_lower (Kd.R_mono (Kd.R_bound hr) (fun k hk => .inr (.inr ⟨hk.2.1, hk.2.2.1⟩))) (Nat.zero_le _)
              · have := hbo.size
                rcases hk with h | h | h
                · have := HKP.out k h; have := hB0.out.size; have := H2.out.size; omega
                · omega
                · exact h.2
              · have := HL.out; simp; omega
              · intro z hz
                exact HPG.out z (by rw [hP.out]; exact hz)
              · have h1 := flatMap_len (pieceW_len (walkW_len m) m S word x y) (step4.take kk)
                have h2 : (step4.take kk).length ≤ 3 := by rw [List.length_take]; omega
                have h3 : (step4.take kk).length * 4 ^ m ≤ 3 * 4 ^ m := Nat.mul_le_mul_right _ h2
                rw [Nat.pow_succ] at hmax
                simp only [List.length_append]
                omega
            have HC5 := Aside0.mk (Kd.R_reads' HW5.out).2.2
            have HC6 := Aside0.mk HCall
            clear HCall
            have hi5 : (Try.prog.info? 5).map (fun i => (i.zero, i.size, i.bytes)) = some (some (.int .u8 0), 1, 1) := by kernel_rfl
            have nb5 : ∀ O'' : Nat → Prop, True := fun _ => trivial
            have e9 : ∀ (O'' : Nat → Prop) (b : Nat), (O'' = O' → b < w5.heap.size → ¬ (O' b ∨ b = bm) → True) := fun _ _ _ _ _ => trivial
            have n5 : ¬ (O' B5 ∨ B5 = bm) := fun h => h.elim (fun h => (H3.out _ h).elim (fun h => HO.out _ h k5) (fun h => absurd b5 (by have := hB0.out.size; omega))) (fun h => hbm (h ▸ k5))
            have n4 : ¬ (O' B4 ∨ B4 = bm) := fun h => h.elim (fun h => (H3.out _ h).elim (fun h => HO.out _ h k4) (fun h => absurd b4 (by have := hB0.out.size; omega))) (fun h => hbm (h ▸ k4))
            have nx5 : ¬ (O' w3.heap.size ∨ w3.heap.size = bm) := fun h => h.elim (fun h => absurd (C.lt _ _ _ H1.out _ h) (by omega)) (fun h => by omega)
            clear nb5 e9
            generalize hFV : (Value.func (Fn.func 31) #[] #[.pointer (some ⟨B2, 0, none⟩), .pointer (some ⟨B3, 0, none⟩), .pointer (some ⟨B4, 0, none⟩), .pointer (some ⟨B5, 0, none⟩)]) = FV at q5
            subst hFV
            go_region_held3 (fun w' => w'.cell? ⟨B5, 0, none⟩ = some (.func (.func 31) #[] #[.pointer (some ⟨B2, 0, none⟩), .pointer (some ⟨B3, 0, none⟩), .pointer (some ⟨B4, 0, none⟩), .pointer (some ⟨B5, 0, none⟩)]) ∧ w'.cell? ⟨w3.heap.size, 0, none⟩ = some (.int .i64 nx) ∧ w'.cell? ⟨w3.heap.size, 1, none⟩ = some (.int .i64 ny))
              (first
                | exact ⟨q5, qx, qy⟩
                | exact ⟨HF9.cell (pw_cell_below hbA q5) n5, HF9.cell (pw_cell_below hbA qx) nx5, HF9.cell (pw_cell_below hbA qy) nx5⟩
                | exact ⟨pw_cell_below hbA q5, pw_cell_below hbA qx, pw_cell_below hbA qy⟩
                | (go_split_ands; exact ⟨pw_cell_below hbx (by assumption), pw_cell_below hbx (by assumption), pw_cell_below hbx (by assumption)⟩)
                | (go_split_ands; exact ⟨pw_cell_below (below_alloc (Below.refl _ _) _) (by assumption), pw_cell_below (below_alloc (Below.refl _ _) _) (by assumption), pw_cell_below (below_alloc (Below.refl _ _) _) (by assumption)⟩))
              (first
                | (go_at_call 33; refine (cloneB_any ga c word _ (by first | exact Kd.C_drew HC5.out | exact Kd.C_drew (Kd.C_alloc HC5.out _)) hWL).mono ?_; rintro e wx ⟨vx, rfl, hox, hbx⟩)
                | (refine Kd.R_append_rows_step (Kd.int .u8) (Rr := (Kd.int .u8).K w5) (w0 := w5) w5.heap.size (by rfl) _ _ 47 5 (.int .u8 0) 1 rfl Try.underlying47 hi5 rfl (by decide) (by decide) vx word [d] _ _ _ (fun _ => True) (fun _ => False) rfl rfl ?xO ?xR (fun _ _ h => h) (fun _ h => h.elim) (fun _ _ => trivial) ?xB ?xS ?xL ?_; (case xO => first | exact Kd.R_lower (Kd.R_alloc hox _) (by first | exact Nat.le_refl _ | simp) | exact Kd.R_lower hox (by first | exact Nat.le_refl _ | simp)); (case xR => first | exact lit1C _ d | exact Kd.C_below (Kd.C_drew (lit1C _ d)) hbx); (case xB => first | exact below_alloc (below_step (below_drew (Below.refl _ _)) hbx) _ | exact below_step (below_drew (below_alloc (Below.refl _ _) _)) hbx); (case xS => have hz_ := hbx.size; simp at hz_; simp; omega); (case xL => omega); intro v1 w1 hr1_ hbA hg1_ ha1_; have HRA := Aside0.mk hr1_; clear hr1_ hg1_ ha1_)
                | (go_at_call 31; refine (HC6.out _ _ ⟨hbA⟩ HRA.out).mono ?_; rintro e w9 ⟨rfl, O9, hI9, HF9, hO9, hM9⟩))
            all_goals
              obtain ⟨w10, hdel, hM10, ht10⟩ := dropS hM9 key.out HSN.out
              have r4 := HF9.cell (pw_cell_below hbA q4) n4
              have hbmO : ¬ O' bm := fun h => (H3.out bm h).elim hOb (fun h => absurd HM.out.lt (by have := hB0.out.size; omega))
              have hbAs := hbA.size
              have h9b : ¬ O9 bm := fun h => (hO9 bm h).elim hbmO (fun h => by have := F5.size; omega)
              have F10 : FrameBut (fun k => k = bm) w9 w10 := (FrameBut.refl _ _).turned ht10 (.inl rfl)
              have I10 := Aside0.mk (C.frame hI9 F10 (fun k hk h => h9b (h ▸ hk)))
              have G10 := Aside0.mk ((((G5.mono (O1 := fun k => O' k ∨ k = bm) (fun k _ h => .inr h)).below (hbA.mono (Nat.le_refl _))).trans HF9 (fun k h => .inl h)).trans F10 (fun k h => .inl (.inr h)))
              have O10 : Aside0 (∀ k, O9 k → O' k ∨ wr.heap.size ≤ k) := ⟨fun k hk => (hO9 k hk).imp id (fun h => by have := G5.size; omega)⟩
              clear hI9 HF9 hO9 hM9 ht10 F10 hlk hst
              go_wp2
              go_roundg (4 - (kk + 1))
              case measure => omega
              case rel => exact ⟨kk + 1, by omega, by omega, by go_num, ⟨LoopsMid.next HT.out (by rw [hP.out]; exact I10.out) H2.out H3.out G10.out O10.out hM10⟩⟩
    · have hkk4 : kk = 4 := by omega
      subst hkk4
      have hltz : ¬ ((4 : Nat) : Int) < 4 := by omega
      go_wp2_with fail
      obtain ⟨O', h1, h2, h3, h4⟩ := HMid.out
      refine bodyPost_ret (v := .tuple #[]) (by simp [results, Try.results31, go_sem]) rfl ⟨rfl, O', ?_, ?_, ?_, h4⟩
      · exact h1
      · exact (FrameBut.of_below hB0.out).trans h2 (fun k hk => .inl hk)
      · exact fun k hk => (h3 k hk).imp id (fun h => by have := hB0.out.size; omega)

set_option maxRecDepth 100000 in
theorem loopsWalk_any (ge : Nat) (lbe : Array Value) (max_ : Nat) (good : List Int → Prop) (Inv : List (List Int) → (Nat → Prop) → World → Prop) (C : CB Try.prog ge lbe (fun l => .string (strOfNums l)) good max_ Inv) (eg : ∀ args w, (callFunc ge args).run Try.prog w = .ok (.enter ge args) w)
    (n : Int) (B2 B3 B4 B5 bm : Nat) (hn : n ≤ 100) : ∀ (m : Nat) (S : List (Int × Int)) (ms : Nat) (word : List Int) (v : Value) (x y : Int) (acc : List (List Int)) (O Kp : Nat → Prop) (w : World),
      LoopsIn w n B2 B3 B4 B5 bm ge lbe Kp → (∀ k, O k → ¬ Kp k) → ¬ Kp bm → MapIs w Try.prog 43 bm ms cornV (inS S) → Inv acc O w → ¬ O bm → Kd.R (Kd.int .u8) 5 w 0 Kp v word → (∀ k, Kp k → k < w.heap.size) → (0, 0) ∈ S → word ≠ [] → (word.length : Int) + m = n → n ≤ 100 → ms + m ≤ 1000 →
      -1000 + (m : Int) ≤ x → x ≤ 1000 - (m : Int) → -1000 + (m : Int) ≤ y → y ≤ 1000 - (m : Int) → (∀ z ∈ walkW m S word x y, good z) → acc.length + 4 ^ m ≤ max_ →
      Calls Try.prog 31 #[v, .agg #[.int .i64 x, .int .i64 y], .pointer (some ⟨B2, 0, none⟩), .pointer (some ⟨B3, 0, none⟩), .pointer (some ⟨B4, 0, none⟩), .pointer (some ⟨B5, 0, none⟩)] w (LoopsPost acc (walkW m S word x y) O Inv bm ms S w)
  | 0 => fun S ms word v x y acc O Kp w hin hO hbm hM hI hOb hw hKp h00 hne hl hn hms hx1 hx2 hy1 hy2 hg hmax =>
    loopsWalk_zero ge lbe max_ good Inv C eg n B2 B3 B4 B5 bm S ms word v x y acc O Kp w hin hO hbm hM hI hOb hw (by simpa using hl) hn (fun h => hg word (by simp [walkW, h])) (by simp at hmax; omega)
  | m + 1 => loopsWalk_succ ge lbe max_ good Inv C eg m n B2 B3 B4 B5 bm (fun S ms word v x y acc O Kp w hin hO hbm hM hI hOb hw hKp h00 hne hl hn hms hx1 hx2 hy1 hy2 hg hmax => loopsWalk_any ge lbe max_ good Inv C eg n B2 B3 B4 B5 bm hn m S ms word v x y acc O Kp w hin hO hbm hM hI hOb hw hKp h00 hne hl hn hms hx1 hx2 hy1 hy2 hg hmax)
theorem store_fn {P : Program} {w : World} {a : Addr} {m : Mode} (fn : Fn) (first cap : Array Value) : (store a (.func fn first cap) m).run P w = stored P w a (.func fn first cap) m := run_store P w a _ m rfl
attribute [local go_sem] store_fn
theorem cellAt {w : World} {c : Array Value} {t : TypeId} {n i : Nat} {v : Value} (hn : n = w.heap.size) (hv : c[i]? = some v) : (w.alloc (.cells c t)).cell? ⟨n, i, none⟩ = some v := (World.cell?_alloc_at (w := w) c t n i hn).trans hv
theorem cellPast {w : World} {o : Obj} {n i : Nat} {v : Value} (h : w.cell? ⟨n, i, none⟩ = some v) : (w.alloc o).cell? ⟨n, i, none⟩ = some v := pw_cell_below (below_alloc (Below.refl _ _) _) h
set_option maxRecDepth 100000 in
set_option maxHeartbeats 4000000 in
theorem loops_any (ge : Nat) (lbe : Array Value) (max_ : Nat) (good : List Int → Prop) (Inv : List (List Int) → (Nat → Prop) → World → Prop) (C : CB Try.prog ge lbe (fun l => .string (strOfNums l)) good max_ Inv) (eg : ∀ args w, (callFunc ge args).run Try.prog w = .ok (.enter ge args) w)
    (m : Nat) (acc : List (List Int)) (O : Nat → Prop) (w : World) (hm : m ≤ 90) (hI : Inv acc O w) (hg : ∀ z ∈ walkW m [(1, 0), (0, 0)] [101] 1 0, good z) (hmax : acc.length + 4 ^ m ≤ max_) :
    Calls Try.prog 20 #[.int .i64 ((m : Int) + 1), .func (.func ge) #[] lbe] w fun e w' => e = .returned (.tuple #[]) ∧ ∃ O', Inv (acc ++ walkW m [(1, 0), (0, 0)] [101] 1 0) O' w' ∧ FrameBut O w w' ∧ ∀ k, O' k → O k ∨ w.heap.size ≤ k := by
  have hmm := @run_makeMap Try.prog
  have hmf : ∀ (fn : Fn) (first cap : Array Value) (w : World), (Instr.makeFunc fn first cap).run Try.prog w = .ok (.func fn first cap) w := fun _ _ _ _ => rfl
  have HI := Aside0.mk hI
  have HG := Aside0.mk hg
  have HMX := Aside0.mk hmax
  clear hI hg hmax
  have M0 : MapIs (((w.alloc (.cells #[.int .i64 ((m : Int) + 1)] 3)).alloc (.cells #[.func (.func ge) #[] lbe] 36)).alloc (.map #[] 0)) Try.prog 43 (w.heap.size + 1 + 1) 0 cornV (inS []) := by
    have := MapIs.made ((w.alloc (.cells #[.int .i64 ((m : Int) + 1)] 3)).alloc (.cells #[.func (.func ge) #[] lbe] 36)) Try.prog 43 cornV
    have h2 : (w.alloc (.cells #[.int .i64 ((m : Int) + 1)] 3)).heap.size + 1 = w.heap.size + 1 + 1 := by simp
    have h3 : ((w.alloc (.cells #[.int .i64 ((m : Int) + 1)] 3)).alloc (.cells #[.func (.func ge) #[] lbe] 36)).heap.size = w.heap.size + 1 + 1 := by simp
    rw [h3] at this
    exact this.congr (fun c kl _ => by simp [inS])
  obtain ⟨w3, hst1, hM1, ht1⟩ := storeS M0 (cornKey 0 0 (i64_wf 0 (by omega) (by omega)) (i64_wf 0 (by omega) (by omega))) (by simp) (by omega)
  have hz3 : w.heap.size + 3 ≤ w3.heap.size := by have := ht1.grown.size; simp at this; omega
  have hblk : ∀ k, k < w.heap.size + 1 + 1 → w3.heap[k]? = ((w.alloc (.cells #[.int .i64 ((m : Int) + 1)] 3)).alloc (.cells #[.func (.func ge) #[] lbe] 36)).heap[k]? := fun k hk => by
    rw [ht1.grown.block k (by simp; omega) (by simp; omega), Below.heap_alloc _ _ _ (by simp; omega)]
  have hM1' := ((hM1.alloc (.cells #[.map (some (w.heap.size + 1 + 1))] 45)).alloc (.cells #[.func (.func 31) #[] #[.pointer (some ⟨w.heap.size, 0, none⟩), .pointer (some ⟨w.heap.size + 1, 0, none⟩), .pointer (some ⟨w3.heap.size, 0, none⟩), .pointer (some ⟨w3.heap.size + 1, 0, none⟩)]] 46)).alloc (.cells #[.int .i64 1, .int .i64 0] 43)
  obtain ⟨w5, hst2, hM2, ht2⟩ := storeS hM1' (cornKey 1 0 (i64_wf 1 (by omega) (by omega)) (i64_wf 0 (by omega) (by omega))) (by simp) (by omega)
  have F5 : FrameBut (fun k => k = w.heap.size + 1 + 1) _ w5 := (FrameBut.refl _ _).turned ht2 (.inl rfl)
  have x2 : w3.cell? ⟨w.heap.size, 0, none⟩ = some (.int .i64 ((m : Int) + 1)) := (World.cell?_of_block (w := (w.alloc (.cells #[.int .i64 ((m : Int) + 1)] 3)).alloc (.cells #[.func (.func ge) #[] lbe] 36)) (hblk _ (by simp only; omega))).trans (cellPast (cellAt rfl rfl))
  have x3 : w3.cell? ⟨w.heap.size + 1, 0, none⟩ = some (.func (.func ge) #[] lbe) := (World.cell?_of_block (w := (w.alloc (.cells #[.int .i64 ((m : Int) + 1)] 3)).alloc (.cells #[.func (.func ge) #[] lbe] 36)) (hblk _ (by simp only; omega))).trans (cellAt (by simp) rfl)
  have hA : ∀ {o1 o2 o3 : Obj} {a : Addr} {v : Value}, w3.cell? a = some v → (((w3.alloc o1).alloc o2).alloc o3).cell? a = some v := fun h => pw_cell_below (below_alloc (below_alloc (below_alloc (Below.refl _ _) _) _) _) h
  have y2 := F5.cell (hA x2) (fun h => by omega)
  have y3 := F5.cell (hA x3) (fun h => by omega)
  have y4 := F5.cell (b := w3.heap.size) (i := 0) (v := .map (some (w.heap.size + 1 + 1))) (cellPast (cellPast (cellAt rfl rfl))) (fun h => by omega)
  have y5 := F5.cell (b := w3.heap.size + 1) (i := 0) (v := .func (.func 31) #[] #[.pointer (some ⟨w.heap.size, 0, none⟩), .pointer (some ⟨w.heap.size + 1, 0, none⟩), .pointer (some ⟨w3.heap.size, 0, none⟩), .pointer (some ⟨w3.heap.size + 1, 0, none⟩)]) (cellPast (cellAt (by simp) rfl)) (fun h => by omega)
  have yx := F5.cell (b := w3.heap.size + 1 + 1) (i := 0) (v := .int .i64 1) (cellAt (by simp) rfl) (fun h => by omega)
  have yy := F5.cell (b := w3.heap.size + 1 + 1) (i := 1) (v := .int .i64 0) (cellAt (by simp) rfl) (fun h => by omega)
  have hz5 : w3.heap.size + 3 ≤ w5.heap.size := by have := F5.size; simp at this; omega
  have G3 : FrameBut (fun k => k = w.heap.size + 1 + 1) w w3 := (((FrameBut.refl _ w).alloc (.cells #[.int .i64 ((m : Int) + 1)] 3)).alloc (.cells #[.func (.func ge) #[] lbe] 36)).alloc (.map #[] 0) |>.turned ht1 (.inl rfl)
  have G5 := Aside0.mk ((((G3.alloc (.cells #[.map (some (w.heap.size + 1 + 1))] 45)).alloc (.cells #[.func (.func 31) #[] #[.pointer (some ⟨w.heap.size, 0, none⟩), .pointer (some ⟨w.heap.size + 1, 0, none⟩), .pointer (some ⟨w3.heap.size, 0, none⟩), .pointer (some ⟨w3.heap.size + 1, 0, none⟩)]] 46)).alloc (.cells #[.int .i64 1, .int .i64 0] 43)).turned ht2 (.inl rfl))
  have hOlt := fun k hk => C.lt acc O w HI.out k hk
  have HC : Aside0 (Calls Try.prog 31 #[.slice (some ⟨w5.heap.size, 0, none⟩) 1 1, .agg #[.int .i64 1, .int .i64 0], .pointer (some ⟨w.heap.size, 0, none⟩), .pointer (some ⟨w.heap.size + 1, 0, none⟩), .pointer (some ⟨w3.heap.size, 0, none⟩), .pointer (some ⟨w3.heap.size + 1, 0, none⟩)] (w5.alloc (.cells #[.int .u8 101] 5))
      (LoopsPost acc (walkW m [(1, 0), (0, 0)] [101] 1 0) O Inv (w.heap.size + 1 + 1) 2 [(1, 0), (0, 0)] (w5.alloc (.cells #[.int .u8 101] 5)))) := by
    have hal : ∀ {a : Addr} {v : Value}, w5.cell? a = some v → (w5.alloc (.cells #[.int .u8 101] 5)).cell? a = some v := fun h => pw_cell_below (below_alloc (Below.refl _ _) _) h
    refine ⟨loopsWalk_any ge lbe max_ good Inv C eg ((m : Int) + 1) w.heap.size (w.heap.size + 1) w3.heap.size (w3.heap.size + 1) (w.heap.size + 1 + 1) (by omega) m [(1, 0), (0, 0)] 2 [101] _ 1 0 acc O (fun k => w.heap.size ≤ k ∧ k < w5.heap.size + 1 ∧ k ≠ w.heap.size + 1 + 1) _
      ⟨hal y2, hal y3, hal y4, hal y5, ⟨by omega, by omega, by omega⟩, ⟨by omega, by omega, by omega⟩, ⟨by omega, by omega, by omega⟩, ⟨by omega, by omega, by omega⟩⟩ (fun k hk h => ?_) (fun h => h.2.2 rfl) (hM2.alloc _) ?_ (fun h => ?_) ?_ (fun k hk => ?_) (by simp) (by simp) (by simp; omega) (by omega) (by omega) (by omega) (by omega) (by omega) (by omega) HG.out HMX.out⟩
    · have := hOlt k hk; omega
    · exact C.below (C.frame HI.out G5.out (fun k hk h => by have := hOlt k hk; omega)) (below_alloc (Below.refl _ _) _)
    · have := hOlt _ h; omega
    · have h := Kd.R_of_own (enc := Value.int .u8) (h1 := fun _ => rfl) (ok := fun k => w.heap.size ≤ k ∧ k < w5.heap.size + 1 ∧ k ≠ w.heap.size + 1 + 1) (own_lit w5 w5.heap.size 5 .u8 [101] (Nat.le_refl _) (by simp)) (fun k hk => by simp [Value.ownBlock] at hk; subst hk; exact ⟨by omega, by omega, by omega⟩)
      exact Kd.R_lower h (Nat.zero_le _)
    · simp; exact hk.2.1
  clear M0 hM1 ht1 hblk hM1' hM2 ht2 F5 G3 hA x2 x3
  have hlt6 : w3.heap.size + 1 + 1 < w5.heap.size := by omega
  go_enter Try.func20, Try.ntmps20
  go_wp2_with ((go_at_call 31; refine HC.out.mono ?_; rintro e w9 ⟨rfl, O9, hI9, hF9, hO9, hM9⟩))
  refine bodyPost_end (v := .tuple #[]) (by simp [results, Try.results20, go_sem]) rfl ⟨rfl, O9, hI9, ?_, fun k hk => (hO9 k hk).imp id (fun h => by simp at h; have := G5.out.size; omega)⟩
  have h9 : FrameBut (fun k => O k ∨ k = w.heap.size + 1 + 1) w w9 := ((G5.out.alloc (.cells #[.int .u8 101] 5)).mono (O1 := fun k => O k ∨ k = w.heap.size + 1 + 1) (fun k _ h => .inr h)).trans hF9 (fun k h => .inl h)
  exact ⟨h9.os, h9.tape, h9.output, h9.size, fun k hk hn => h9.block k hk (fun h => h.elim hn (fun h => by omega))⟩

end Go.Proofs.Ytbnkdfmomcmmaaa.P


namespace Go.Proofs.Ytbnkdfmomcmmaaa.P
open Go.RowKit Go.Proofs.YtbnkdfmomcmmaaaW.PrintWords Go.Proofs.YtbnkdfmomcmmaaaW.PrintLast Go.Proofs.YtbnkdfmomcmmaaaW.PrintMore
attribute [local go_sem] max2_int min2_int max_two min_two max_three min_three max_four min_four   -- for this text's walks alone
set_option linter.unusedVariables false
set_option linter.unusedSimpArgs false

def impl_bit.f (a0 : Bool) : Option (Int) := if a0 = true then (some 1) else (some 0)
set_option maxHeartbeats 8000000 in
set_option maxRecDepth 100000 in
theorem impl_bit.calls (a0 : Bool) (r : Int) (w : World) (h : impl_bit.f a0 = some r) :
    Calls Try.prog 29 #[.bool a0] w fun e w' => e = .returned (.int .i64 r) ∧ Drawn0 w w' := by
  have H : (if a0 = true then (some 1) else (some 0)) = some r := h
  clear h
  by_cases c2 : a0 = true
  · subst c2
    have H1 : (some 1) = some r := by rw [if_pos rfl] at H; exact H
    clear H
    have H := H1
    clear H1
    obtain rfl := Option.some.inj H
    go_enter Try.func29, Try.ntmps29
    go_wp2
    go_ret
    exact ⟨by first | rfl | (simp; done) | (simp [*]; done), by repeat (first | exact Drawn0.refl _ | apply Drawn0.step)⟩
  · replace c2 := Bool.eq_false_iff.mpr c2
    subst c2
    have H1 : (some 0) = some r := by rw [if_neg (show ¬ (false = true) by decide)] at H; exact H
    clear H
    have H := H1
    clear H1
    obtain rfl := Option.some.inj H
    go_enter Try.func29, Try.ntmps29
    go_wp2
    go_ret
    exact ⟨by first | rfl | (simp; done) | (simp [*]; done), by repeat (first | exact Drawn0.refl _ | apply Drawn0.step)⟩

end Go.Proofs.Ytbnkdfmomcmmaaa.P


namespace Go.Proofs.Ytbnkdfmomcmmaaa.P
open Go.RowKit Go.Proofs.YtbnkdfmomcmmaaaW.PrintWords Go.Proofs.YtbnkdfmomcmmaaaW.PrintLast Go.Proofs.YtbnkdfmomcmmaaaW.PrintMore
attribute [local go_sem] max2_int min2_int max_two min_two max_three min_three max_four min_four   -- for this text's walks alone
set_option linter.unusedVariables false
set_option linter.unusedSimpArgs false

def loopWords (m : Nat) : List (List Int) := walkW m [(1, 0), (0, 0)] [101] 1 0
end Go.Proofs.Ytbnkdfmomcmmaaa.P


namespace Go.Proofs.Ytbnkdfmomcmmaaa.P
open Go.RowKit Go.Proofs.YtbnkdfmomcmmaaaW.PrintWords Go.Proofs.YtbnkdfmomcmmaaaW.PrintLast Go.Proofs.YtbnkdfmomcmmaaaW.PrintMore
attribute [local go_sem] max2_int min2_int max_two min_two max_three min_three max_four min_four   -- for this text's walks alone
set_option linter.unusedVariables false
set_option linter.unusedSimpArgs false

def AllInv (Bo base : Nat) (acc : List (List Int)) (O : Nat → Prop) (W : World) : Prop :=
  ∃ v, W.cell? ⟨Bo, 0, none⟩ = some v ∧ W.frozen? ⟨Bo, 0, none⟩ = false ∧ Kd.R Kd.string 9 W base (fun k => k ≠ Bo) v (acc.map strOfNums) ∧ ∀ k, O k ↔ k = Bo ∨ some k = v.ownBlock
theorem lit1S (W : World) (s : ByteArray) : Kd.C Kd.string (W.alloc (.cells #[.string s] 9)) (some ⟨W.heap.size, 0, none⟩) 1 [s] := by
  refine Kd.C_of_reads (enc := Value.string) (d := ByteArray.empty) (h1 := fun _ => rfl) ⟨rfl, by omega, fun _ => ⟨_, rfl, fun j hj => ?_⟩⟩
  obtain rfl : j = 0 := by omega
  exact World.cell?_alloc_at _ _ _ _ rfl
set_option maxRecDepth 100000 in
set_option maxHeartbeats 4000000 in
theorem allLit_any (Bo base : Nat) (hbo : base ≤ Bo) (x : List Int) (acc : List (List Int)) (O : Nat → Prop) (w : World) (hlen : acc.length < 1000000000) (hI : AllInv Bo base acc O w) :
    Calls Try.prog 21 #[.string (strOfNums x), .pointer (some ⟨Bo, 0, none⟩)] w fun e w' => e = .returned (.tuple #[]) ∧ ∃ O', AllInv Bo base (acc ++ [x]) O' w' ∧ FrameBut O w w' ∧ ∀ k, O' k → O k ∨ w.heap.size ≤ k := by
  obtain ⟨v, c1, f1, hR, hO⟩ := hI
  have b1 : Bo < w.heap.size := World.block_lt_of_cell? w _ c1
  have hnv : some Bo ≠ v.ownBlock := fun h => hR.1 Bo h.symm rfl
  have HR := Aside0.mk hR
  have HO := Aside0.mk hO
  have HL := Aside0.mk hlen
  have HLN : Aside0 ((acc.map strOfNums ++ [strOfNums x]).length = acc.length + 1) := ⟨by simp⟩
  have HBW : Aside0 (base ≤ w.heap.size) := ⟨by omega⟩
  have HBA : Aside0 (∀ o, Bo < (w.alloc o).heap.size) := ⟨fun o => by simp; omega⟩
  have hi5 : (Try.prog.info? 9).map (fun i => (i.zero, i.size, i.bytes)) = some (some (.string ByteArray.empty), 1, 16) := by kernel_rfl
  clear hR hO hlen
  go_enter Try.func21, Try.ntmps21
  go_wp2_with ((at_builtin; refine Kd.R_append_row (w0 := w) (h1 := fun _ => rfl) Value.string ByteArray.empty base rfl _ _ _ _ _ 16 rfl Try.underlying25 hi5 rfl (by decide) v (acc.map strOfNums) [strOfNums x] _ 1 _ (fun k => k ≠ Bo) rfl rfl ?xF ?xA ?xB ?xC ?xD ?xE ?_; (case xF => exact fun k hk => by simp at hk; omega); (case xA => exact Kd.R_alloc HR.out _); (case xB => exact lit1S w (strOfNums x)); (case xC => exact (below_alloc (Below.refl w.heap.size w) _).mono HBW.out); (case xD => simp; omega); (case xE => have h_ := HL.out; simp; omega); intro v1 w1 ho hb hg hat; obtain ⟨A1, d1, rfl⟩ := Kd.R_slice ho; have cx : w1.cell? ⟨Bo, 0, none⟩ = some v := cell_grown hg ((World.cell?_alloc_lt _ _ _ b1).trans c1) hnv; have fx : w1.frozen? ⟨Bo, 0, none⟩ = false := (World.frozen?_of_block (a := ⟨Bo, 0, none⟩) (hg.block Bo (HBA.out _) hnv)).trans ((World.frozen?_of_block (w := w) (a := ⟨Bo, 0, none⟩) (Below.heap_alloc _ _ _ b1)).trans f1); have HO1 := Aside0.mk ho; have HB1 := Aside0.mk hb; have HG1 := Aside0.mk hg; have HA1 := Aside0.mk hat; clear ho hb hg hat))
  refine bodyPost_end (v := .tuple #[]) (by simp [results, Try.results21, go_sem]) rfl ⟨rfl, fun k => k = Bo ∨ some k = (Value.slice A1 (acc.map strOfNums ++ [strOfNums x]).length d1).ownBlock, ⟨_, ?_, ?_, ?_, fun k => Iff.rfl⟩, ?_, fun k hk => ?_⟩
  · rw [HLN.out]; apply World.cell?_setCell_same; exact cx
  · rw [World.frozen?_setCell]; exact fx
  · rw [List.map_append]; exact Kd.R_far (p := ⟨Bo, 0, none⟩) HO1.out (fun k hk => hk) _
  · exact ((((FrameBut.refl O w).alloc _).grown HG1.out (fun k hk => .inl ((HO.out k).2 (.inr hk.symm)))).setCell (.inl ((HO.out Bo).2 (.inl rfl))) _)
  · rcases hk with hk | hk
    · exact .inl ((HO.out k).2 (.inl hk))
    · rcases HA1.out with h | ⟨b, h, hb⟩
      · exact .inl ((HO.out k).2 (.inr (hk.trans h)))
      · rw [h] at hk
        cases hk
        exact .inr (by simp at hb; omega)
theorem allCB (Bo base : Nat) (hbo : base ≤ Bo) : CB Try.prog 21 #[.pointer (some ⟨Bo, 0, none⟩)] (fun l => .string (strOfNums l)) (fun _ => True) 1000000000 (AllInv Bo base) where
  call := fun acc O W x hlen _ hI => allLit_any Bo base hbo x acc O W hlen hI
  move := fun acc O W W' hI hs _ _ _ hk => by
    obtain ⟨v, c1, f1, hR, hO⟩ := hI
    have hm := hk Bo ((hO Bo).2 (.inl rfl))
    refine ⟨v, (World.cell?_of_block (w := W) (a := ⟨Bo, 0, none⟩) hm).trans c1, (World.frozen?_of_block (w := W) (a := ⟨Bo, 0, none⟩) hm).trans f1, Kd.R_mono (Kd.R_move (Kd.R_tight rfl hR) (fun k h => hk k ((hO k).2 (.inr h)))) (fun k h => hR.1 k h.symm), hO⟩
  lt := fun acc O W hI k hk => by
    obtain ⟨v, c1, f1, hR, hO⟩ := hI
    rcases (hO k).1 hk with rfl | h
    · exact World.block_lt_of_cell? W _ c1
    · exact Kd.R_lt hR k h.symm
def impl_AllLoops.f (a0 : Int) : Option (List ByteArray × Bool) := (impl_isLength.f a0).bind fun t => if t = true ∧ a0 ≤ 10 then some ((loopWords (a0 - 1).toNat).map strOfNums, true) else some ([], false)
set_option maxRecDepth 100000 in
set_option maxHeartbeats 4000000 in
theorem AllLoops_no (a0 : Int) (t : Bool) (ht : impl_isLength.f a0 = some t) (hno : ¬ (t = true ∧ a0 ≤ 10)) (w : World) :
    Calls Try.prog 9 #[.int .i64 a0] w fun e w' => e = .returned (.tuple #[.slice none 0 0, .bool false]) ∧ Below w.heap.size w w' := by
  have H := Aside0.mk ht
  clear ht
  cases t with
  | false =>
    clear hno
    go_enter Try.func9, Try.ntmps9
    go_wp2_with ((go_at_call 19; refine (impl_isLength.calls _ _ _ H.out).mono ?_; rintro e w1 ⟨rfl, ⟨nd, rfl⟩⟩))
    go_ret2
    exact ⟨rfl, pw_below_drewN (Below.refl _ _) _⟩
  | true =>
    have h10 : 10 < a0 := by simp at hno; exact hno
    clear hno
    go_enter Try.func9, Try.ntmps9
    go_wp2_with ((go_at_call 19; refine (impl_isLength.calls _ _ _ H.out).mono ?_; rintro e w1 ⟨rfl, ⟨nd, rfl⟩⟩))
    go_ret2
    exact ⟨rfl, pw_below_drewN (Below.refl _ _) _⟩
set_option maxRecDepth 100000 in
set_option maxHeartbeats 4000000 in
theorem AllLoops_yes (m : Nat) (hm : m ≤ 9) (ht : impl_isLength.f ((m : Int) + 1) = some true) (w : World) :
    Calls Try.prog 9 #[.int .i64 ((m : Int) + 1)] w fun e w' => ∃ v0_, e = .returned (.tuple #[v0_, .bool true]) ∧ Kd.R Kd.string 9 w' w.heap.size (fun _ => True) v0_ ((loopWords m).map strOfNums) ∧ Below w.heap.size w w' := by
  have H := Aside0.mk ht
  have h10 : (m : Int) + 1 ≤ 10 := by omega
  have hmf : ∀ (fn : Fn) (first cap : Array Value) (w : World), (Instr.makeFunc fn first cap).run Try.prog w = .ok (.func fn first cap) w := fun _ _ _ _ => rfl
  have eg : ∀ args w, (callFunc 21 args).run Try.prog w = .ok (.enter 21 args) w := enters_of Try.func21 (by kernel_rfl) rfl
  have hcon : ∀ W : World, ∀ Bo, Aside0 (Below w.heap.size w W) → Aside0 (w.heap.size ≤ Bo) → ∀ v, W.cell? ⟨Bo, 0, none⟩ = some v → W.frozen? ⟨Bo, 0, none⟩ = false → Kd.R Kd.string 9 W w.heap.size (fun k => k ≠ Bo) v [] →
      Calls Try.prog 20 #[.int .i64 ((m : Int) + 1), .func (.func 21) #[] #[.pointer (some ⟨Bo, 0, none⟩)]] W fun e w' => e = .returned (.tuple #[]) ∧ ∃ v', w'.cell? ⟨Bo, 0, none⟩ = some v' ∧ Kd.R Kd.string 9 w' w.heap.size (fun _ => True) v' ((loopWords m).map strOfNums) ∧ Below w.heap.size w w' := fun W Bo hB hbo v h1 h2 h3 => by
    refine (loops_any 21 _ 1000000000 _ _ (allCB Bo w.heap.size hbo.out) eg m [] (fun k => k = Bo ∨ some k = v.ownBlock) W (by omega) ⟨v, h1, h2, h3, fun k => Iff.rfl⟩ (fun _ _ => trivial) ?_).mono ?_
    · have : 4 ^ m ≤ 4 ^ 9 := Nat.pow_le_pow_right (by omega) hm
      simp only [List.length_nil]
      omega
    · rintro e w' ⟨rfl, O', ⟨v', i1, i2, i3, i4⟩, hF, hO'⟩
      refine ⟨rfl, v', i1, Kd.R_mono i3 (fun _ _ => trivial), hB.out.trans (hF.toBelow hB.out.size (fun k hk h => ?_))⟩
      rcases h with h | h
      · have := hbo.out; omega
      · exact absurd (Kd.R_base h3 k h.symm) (by omega)
  have HC := Aside0.mk hcon
  clear hcon ht eg
  generalize (loopWords m).map strOfNums = R at HC ⊢
  go_enter Try.func9, Try.ntmps9
  go_wp2_with (first
    | (go_at_call 19; refine (impl_isLength.calls _ _ _ H.out).mono ?_; rintro e w1 ⟨rfl, ⟨nd, rfl⟩⟩)
    | (go_at_call 20; refine (HC.out _ (w.heap.size + 1) ?xB ?xb (.slice (some ⟨w.heap.size, 0, none⟩) 0 0) ?x1 ?x2 ?x3).mono ?_; (case xB => exact ⟨by repeat (first | exact Below.refl _ _ | apply below_alloc | apply pw_below_drewN | apply below_drew)⟩); (case xb => exact ⟨by simp⟩); (case x1 => go_simp); (case x2 => go_simp); (case x3 => exact Kd.R_mono (Kd.R_alloc (R_lit0 Kd.string 9 (w.drewN nd) w.heap.size (by simp)) _) (fun k hk => by simp at hk; omega)); rintro e w2 ⟨rfl, v', hc, hr, hb⟩; have HR2 := Aside0.mk hr; have HB2 := Aside0.mk hb; clear hr hb))
  go_ret2
  exact ⟨_, rfl, HR2.out, HB2.out⟩
theorem isLength_yesA {a : Int} (h : impl_isLength.f a = some true) : 4 ≤ a ∧ a ≤ 14 := by
  unfold impl_isLength.f impl_within.f at h
  by_cases h1 : 4 ≤ a
  · refine ⟨h1, ?_⟩
    by_cases h2 : a ≤ 14
    · exact h2
    · simp [h1, h2] at h
  · simp [h1] at h
theorem impl_AllLoops.calls (a0 : Int) (r1 : List ByteArray) (r2 : Bool) (w : World) (h : impl_AllLoops.f a0 = some (r1, r2)) :
    Calls Try.prog 9 #[.int .i64 a0] w fun e w' => ∃ v0_ : Value, e = .returned (.tuple #[v0_, .bool r2]) ∧ Kd.R Kd.string 9 w' w.heap.size (fun _ => True) v0_ r1 ∧ Below w.heap.size w w' := by
  unfold impl_AllLoops.f at h
  obtain ⟨t, ht, h⟩ := Option.bind_eq_some_iff.mp h
  by_cases hy : t = true ∧ a0 ≤ 10
  · rw [if_pos hy] at h
    obtain ⟨rfl, h10⟩ := hy
    simp only [Option.some.injEq, Prod.mk.injEq] at h
    obtain ⟨rfl, rfl⟩ := h
    obtain ⟨h4, h14⟩ := isLength_yesA ht
    obtain ⟨m, rfl⟩ : ∃ m : Nat, a0 = (m : Int) + 1 := ⟨(a0 - 1).toNat, by omega⟩
    have e : ((m : Int) + 1 - 1).toNat = m := by omega
    rw [e]
    exact AllLoops_yes m (by omega) ht w
  · rw [if_neg hy] at h
    simp only [Option.some.injEq, Prod.mk.injEq] at h
    obtain ⟨rfl, rfl⟩ := h
    exact (AllLoops_no a0 t ht hy w).mono fun e w' ⟨he, hb⟩ => ⟨_, he, Kd.R_nil _ _ _ _ _, hb⟩

end Go.Proofs.Ytbnkdfmomcmmaaa.P


namespace Go.Proofs.Ytbnkdfmomcmmaaa.P
open Go.RowKit Go.Proofs.YtbnkdfmomcmmaaaW.PrintWords Go.Proofs.YtbnkdfmomcmmaaaW.PrintLast Go.Proofs.YtbnkdfmomcmmaaaW.PrintMore
attribute [local go_sem] max2_int min2_int max_two min_two max_three min_three max_four min_four   -- for this text's walks alone
set_option linter.unusedVariables false
set_option linter.unusedSimpArgs false

def laws_eqStringS.l0 : Nat → List ByteArray → List ByteArray → Int → Option (Bool)
  | 0, _, _, _ => none
  | k + 1, x0, x1, x5 => if x5 < (x0.length : Int) then (if 0 ≤ x5 then (if x5 < (x1.length : Int) then (if (rdOf ByteArray.empty x0 x5).toList = (rdOf ByteArray.empty x1 x5).toList then (laws_eqStringS.l0 k x0 x1 (wrap64 (x5 + 1))) else (some false)) else (none)) else (none)) else (some true)
def laws_eqStringS.f (k : Nat) (l0 : List ByteArray) (l1 : List ByteArray) : Option (Bool) := if (l0.length : Int) = (l1.length : Int) then (laws_eqStringS.l0 k l0 l1 0) else (some false)
theorem laws_eqStringS.mono_l : ∀ k, (∀ y0 y1 y2, LeO (laws_eqStringS.l0 k y0 y1 y2) (laws_eqStringS.l0 (k + 1) y0 y1 y2))
  | 0 => fun _ _ _ r h => by simp [laws_eqStringS.l0] at h
  | k + 1 => by
    have ih0 := laws_eqStringS.mono_l k
    · intro y0 y1 y2
      unfold laws_eqStringS.l0
      repeat' first
      | (with_reducible exact ih0 _ _ _)
      | (with_reducible exact LeO.refl _)
      | (with_reducible exact LeO.none _)
      | (with_reducible refine LeO.ite ?_ ?_)
      | (with_reducible refine LeO.bind ?_ (fun _ => ?_))
      | exact ih0 _ _ _
      | exact LeO.none _
      | refine LeO.ite ?_ ?_
      | refine LeO.bind ?_ (fun _ => ?_)
theorem laws_eqStringS.mono : ∀ a0 a1 k, LeO (laws_eqStringS.f k a0 a1) (laws_eqStringS.f (k + 1) a0 a1) := by
  intro a0 a1 k
  have ih0 := laws_eqStringS.mono_l k
  unfold laws_eqStringS.f
  repeat' first
      | (with_reducible exact ih0 _ _ _)
      | (with_reducible exact LeO.refl _)
      | (with_reducible exact LeO.none _)
      | (with_reducible refine LeO.ite ?_ ?_)
      | (with_reducible refine LeO.bind ?_ (fun _ => ?_))
      | exact ih0 _ _ _
      | exact LeO.none _
      | refine LeO.ite ?_ ?_
      | refine LeO.bind ?_ (fun _ => ?_)
set_option maxHeartbeats 8000000 in
set_option maxRecDepth 100000 in
theorem laws_eqStringS.calls (k : Nat) (A0 : Option Addr) (c0 : Nat) (l0 : List ByteArray) (A1 : Option Addr) (c1 : Nat) (l1 : List ByteArray) (r : Bool) (w : World) (hr0 : Kd.C Kd.string w A0 l0.length l0) (hc0 : l0.length ≤ c0) (hr1 : Kd.C Kd.string w A1 l1.length l1) (hc1 : l1.length ≤ c1) (h : laws_eqStringS.f k l0 l1 = some r) :
    Calls Try.prog 10 #[.slice A0 l0.length c0, .slice A1 l1.length c1] w fun e w' => e = .returned (.bool r) ∧ Drawn0 w w' := by
  have HR0 := Aside0.mk hr0
  have HC0 := Aside0.mk hc0
  clear hr0 hc0
  have HR1 := Aside0.mk hr1
  have HC1 := Aside0.mk hc1
  clear hr1 hc1
  have H : (if (l0.length : Int) = (l1.length : Int) then (laws_eqStringS.l0 k l0 l1 0) else (some false)) = some r := h
  clear h
  by_cases c3 : (l0.length : Int) = (l1.length : Int)
  · rw [if_pos c3] at H
    have c3b0 : ((l0.length : Int) == (l1.length : Int)) = true := beq_iff_eq.mpr c3
    have c3b1 : ((l0.length : Int) != (l1.length : Int)) = false := bne_eq_false_iff_eq.mpr c3
    have c3b2 : (l0.length == l1.length) = true := by first | simpa using c3 | (simp at c3 ⊢; omega)
    clear c3
    have H' := Aside0.mk H
    clear H
    go_enter Try.func10, Try.ntmps10
    go_wp2
    repeat (go_quiet (fail); try go_wp2)
    go_loopg [5] k (fun kq v5 w' => ∃ (x5_1 : Int), v5 = .int .i64 x5_1 ∧ Aside0 (laws_eqStringS.l0 kq l0 l1 x5_1 = some r) ∧ Aside0 (kq ≤ k) ∧ Drawn0 w w')
    case atStart => exact ⟨(0), (by first | rfl | (simp; done) | (simp [*]; done)), H', ⟨Nat.le_refl _⟩, by repeat (first | exact Drawn0.refl _ | apply Drawn0.step)⟩
    case round =>
      clear H'
      try clear c1
      try clear p2
      try clear c3
      try clear c3b0
      try clear c3b1
      try clear c3b2
      obtain ⟨x5_1, rfl, HA, HK1, ⟨m1, rfl⟩⟩ := hrel
      cases gk with
      | zero => exact absurd HA.out (by simp [laws_eqStringS.l0])
      | succ k1 =>
        have H := HA.out
        clear HA
        simp only [laws_eqStringS.l0] at H
        by_cases c4 : x5_1 < (l0.length : Int)
        · rw [if_pos c4] at H
          have c4b0 : decide (x5_1 < (l0.length : Int)) = true := decide_eq_true c4
          clear c4
          by_cases c5 : 0 ≤ x5_1
          · rw [if_pos c5] at H
            have c5b0 : decide (0 ≤ x5_1) = true := decide_eq_true c5
            clear c5
            by_cases c6 : x5_1 < (l1.length : Int)
            · rw [if_pos c6] at H
              have c6b0 : decide (x5_1 < (l1.length : Int)) = true := decide_eq_true c6
              clear c6
              by_cases c7 : (rdOf ByteArray.empty l0 x5_1).toList = (rdOf ByteArray.empty l1 x5_1).toList
              · rw [if_pos c7] at H
                have c7b0 : ((rdOf ByteArray.empty l0 x5_1).toList == (rdOf ByteArray.empty l1 x5_1).toList) = true := beq_iff_eq.mpr c7
                have c7b1 : ((rdOf ByteArray.empty l0 x5_1).toList != (rdOf ByteArray.empty l1 x5_1).toList) = false := bne_eq_false_iff_eq.mpr c7
                clear c7
                have H' := Aside0.mk H
                clear H
                have p163 : 0 ≤ (x5_1 : Int) := of_decide_eq_true (by first | (with_reducible assumption) | assumption)
                have q163 : x5_1 < (l0.length : Int) := of_decide_eq_true (by first | (with_reducible assumption) | assumption)
                obtain ⟨ad163, e163, hx163_0⟩ := Kd.at_string HR0.out x5_1 p163 q163
                cases e163
                replace p163 := eq_true p163
                replace q163 := eq_true q163
                have p164 : 0 ≤ (x5_1 : Int) := of_decide_eq_true (by first | (with_reducible assumption) | assumption)
                have q164 : x5_1 < (l1.length : Int) := of_decide_eq_true (by first | (with_reducible assumption) | assumption)
                obtain ⟨ad164, e164, hx164_0⟩ := Kd.at_string HR1.out x5_1 p164 q164
                cases e164
                replace p164 := eq_true p164
                replace q164 := eq_true q164
                go_wp2
                repeat (go_quiet (fail); try go_wp2)
                go_roundg k1
                case measure => have := HK1.out; omega
                case rel => exact ⟨(wrap64 (x5_1 + 1)), (by first | rfl | (simp; done) | (simp [*]; done)), H', ⟨by have := HK1.out; omega⟩, by repeat (first | exact Drawn0.refl _ | apply Drawn0.step)⟩
              · rw [if_neg c7] at H
                have c7b0 : ((rdOf ByteArray.empty l0 x5_1).toList == (rdOf ByteArray.empty l1 x5_1).toList) = false := beq_eq_false_iff_ne.mpr c7
                have c7b1 : ((rdOf ByteArray.empty l0 x5_1).toList != (rdOf ByteArray.empty l1 x5_1).toList) = true := bne_iff_ne.mpr c7
                obtain rfl := Option.some.inj H
                have p163 : 0 ≤ (x5_1 : Int) := of_decide_eq_true (by first | (with_reducible assumption) | assumption)
                have q163 : x5_1 < (l0.length : Int) := of_decide_eq_true (by first | (with_reducible assumption) | assumption)
                obtain ⟨ad163, e163, hx163_0⟩ := Kd.at_string HR0.out x5_1 p163 q163
                cases e163
                replace p163 := eq_true p163
                replace q163 := eq_true q163
                have p164 : 0 ≤ (x5_1 : Int) := of_decide_eq_true (by first | (with_reducible assumption) | assumption)
                have q164 : x5_1 < (l1.length : Int) := of_decide_eq_true (by first | (with_reducible assumption) | assumption)
                obtain ⟨ad164, e164, hx164_0⟩ := Kd.at_string HR1.out x5_1 p164 q164
                cases e164
                replace p164 := eq_true p164
                replace q164 := eq_true q164
                go_wp2
                repeat (go_quiet (fail); try go_wp2)
                go_ret
                exact ⟨by first | rfl | (simp; done) | (simp [*]; done), by repeat (first | exact Drawn0.refl _ | apply Drawn0.step)⟩
            · rw [if_neg c6] at H
              exact absurd H (by simp)
          · rw [if_neg c5] at H
            exact absurd H (by simp)
        · rw [if_neg c4] at H
          have c4b0 : decide (x5_1 < (l0.length : Int)) = false := decide_eq_false c4
          clear c4
          obtain rfl := Option.some.inj H
          go_wp2
          repeat (go_quiet (fail); try go_wp2)
          go_ret
          exact ⟨by first | rfl | (simp; done) | (simp [*]; done), by repeat (first | exact Drawn0.refl _ | apply Drawn0.step)⟩
  · rw [if_neg c3] at H
    have c3b0 : ((l0.length : Int) == (l1.length : Int)) = false := beq_eq_false_iff_ne.mpr c3
    have c3b1 : ((l0.length : Int) != (l1.length : Int)) = true := bne_iff_ne.mpr c3
    have c3b2 : (l0.length == l1.length) = false := by first | simpa using c3 | (simp at c3 ⊢; omega)
    obtain rfl := Option.some.inj H
    go_enter Try.func10, Try.ntmps10
    go_wp2
    repeat (go_quiet (fail); try go_wp2)
    go_ret
    exact ⟨by first | rfl | (simp; done) | (simp [*]; done), by repeat (first | exact Drawn0.refl _ | apply Drawn0.step)⟩

end Go.Proofs.Ytbnkdfmomcmmaaa.P


namespace Go.Proofs.Ytbnkdfmomcmmaaa.P
open Go.RowKit Go.Proofs.YtbnkdfmomcmmaaaW.PrintWords Go.Proofs.YtbnkdfmomcmmaaaW.PrintLast Go.Proofs.YtbnkdfmomcmmaaaW.PrintMore
attribute [local go_sem] max2_int min2_int max_two min_two max_three min_three max_four min_four   -- for this text's walks alone
set_option linter.unusedVariables false
set_option linter.unusedSimpArgs false

def laws_markText.l0 : Nat → Int → ByteArray → Option (ByteArray)
  | 0, _, _ => none
  | k + 1, x0, x3 => if x0 > 0 then ((some (([(wrap64 (48 + (Int.tmod x0 10))) % 256] : List Int) : List Int)).bind fun y165 => (if (strOfNums y165).size + x3.size ≤ 9223372036854775807 then (laws_markText.l0 k (wrap64 (Int.tdiv x0 10)) ((strOfNums y165) ++ x3)) else (none))) else (if 1 + x3.size ≤ 9223372036854775807 then (some ((⟨#[109]⟩ : ByteArray) ++ x3)) else (none))
def laws_markText.f (k : Nat) (a0 : Int) : Option (ByteArray) := if a0 ≤ 0 then (some (⟨#[109, 48]⟩ : ByteArray)) else (laws_markText.l0 k a0 (⟨#[]⟩ : ByteArray))
theorem laws_markText.mono_l : ∀ k, (∀ y0 y1, LeO (laws_markText.l0 k y0 y1) (laws_markText.l0 (k + 1) y0 y1))
  | 0 => fun _ _ r h => by simp [laws_markText.l0] at h
  | k + 1 => by
    have ih0 := laws_markText.mono_l k
    · intro y0 y1
      unfold laws_markText.l0
      repeat' first
      | (with_reducible exact ih0 _ _)
      | (with_reducible exact LeO.refl _)
      | (with_reducible exact LeO.none _)
      | (with_reducible refine LeO.ite ?_ ?_)
      | (with_reducible refine LeO.bind ?_ (fun _ => ?_))
      | exact ih0 _ _
      | exact LeO.none _
      | refine LeO.ite ?_ ?_
      | refine LeO.bind ?_ (fun _ => ?_)
theorem laws_markText.mono : ∀ a0 k, LeO (laws_markText.f k a0) (laws_markText.f (k + 1) a0) := by
  intro a0 k
  have ih0 := laws_markText.mono_l k
  unfold laws_markText.f
  repeat' first
      | (with_reducible exact ih0 _ _)
      | (with_reducible exact LeO.refl _)
      | (with_reducible exact LeO.none _)
      | (with_reducible refine LeO.ite ?_ ?_)
      | (with_reducible refine LeO.bind ?_ (fun _ => ?_))
      | exact ih0 _ _
      | exact LeO.none _
      | refine LeO.ite ?_ ?_
      | refine LeO.bind ?_ (fun _ => ?_)
set_option maxHeartbeats 8000000 in
set_option maxRecDepth 100000 in
theorem laws_markText.calls (k : Nat) (a0 : Int) (r : ByteArray) (w : World) (h : laws_markText.f k a0 = some r) :
    Calls Try.prog 22 #[.int .i64 a0] w fun e w' => e = .returned (.string r) ∧ Below w.heap.size w w' := by
  have HB := Aside0.mk (Below.refl w.heap.size w)
  have H : (if a0 ≤ 0 then (some (⟨#[109, 48]⟩ : ByteArray)) else (laws_markText.l0 k a0 (⟨#[]⟩ : ByteArray))) = some r := h
  clear h
  by_cases c2 : a0 ≤ 0
  · rw [if_pos c2] at H
    have c2b0 : decide (a0 ≤ 0) = true := decide_eq_true c2
    clear c2
    obtain rfl := Option.some.inj H
    go_enter Try.func22, Try.ntmps22
    go_wp2
    go_ret
    exact ⟨by first | rfl | (simp [errW_none, errW_some] <;> rfl) | (simp [*, errW_none, errW_some] <;> rfl), by repeat (first | (with_reducible first | exact HB.out | apply below_alloc | apply pw_below_drewN | apply below_drew1) | exact HB.out)⟩
  · rw [if_neg c2] at H
    have c2b0 : decide (a0 ≤ 0) = false := decide_eq_false c2
    clear c2
    have H' := Aside0.mk H
    clear H
    go_enter Try.func22, Try.ntmps22
    go_wp2
    go_loopg [0, 3] k (fun kq v0 v3 w' => ∃ (x0_1 : Int) (x3_1 : ByteArray), v0 = .int .i64 x0_1 ∧ v3 = .string x3_1 ∧ Aside0 (laws_markText.l0 kq x0_1 x3_1 = some r) ∧ Aside0 (kq ≤ k) ∧ Aside0 (Below w.heap.size w w'))
    case atStart => exact ⟨(a0), ((⟨#[]⟩ : ByteArray)), (by first | rfl | (simp; done) | (simp [*]; done)), (by first | rfl | (simp; done) | (simp [*]; done)), H', ⟨Nat.le_refl _⟩, ⟨by repeat (first | (with_reducible first | exact HB.out | apply below_alloc | apply pw_below_drewN | apply below_drew1) | exact HB.out)⟩⟩
    case round =>
      clear H'
      try clear c2
      try clear c2b0
      try clear p2
      obtain ⟨x0_1, x3_1, rfl, rfl, HA, HK1, HB⟩ := hrel
      cases gk with
      | zero => exact absurd HA.out (by simp [laws_markText.l0])
      | succ k1 =>
        have H := HA.out
        clear HA
        simp only [laws_markText.l0] at H
        by_cases c3 : x0_1 > 0
        · rw [if_pos c3] at H
          have c3b0 : decide (0 < x0_1) = true := decide_eq_true c3
          clear c3
          obtain ⟨y165, hy165⟩ : ∃ y_ : List Int, y_ = (([(wrap64 (48 + (Int.tmod x0_1 10))) % 256] : List Int)) := ⟨_, rfl⟩
          replace H : (if (strOfNums y165).size + x3_1.size ≤ 9223372036854775807 then (laws_markText.l0 k1 (wrap64 (Int.tdiv x0_1 10)) ((strOfNums y165) ++ x3_1)) else (none)) = some r := by first | (rw [hy165]; with_reducible exact H) | (have H2_ := (Option.bind_some _ _).symm.trans H; rw [hy165]; with_reducible exact H2_) | (have H2_ := (Option.bind_some _ _).symm.trans H; with_reducible exact H2_) | with_reducible exact H | (rw [hy165]; exact H) | exact H
          have Ny165 := Aside0.mk hy165
          clear hy165
          by_cases c4 : (strOfNums y165).size + x3_1.size ≤ 9223372036854775807
          · rw [if_pos c4] at H
            have c4b0 := eq_true c4
            have c4b1 : decide ((strOfNums y165).size + x3_1.size ≤ 9223372036854775807) = true := decide_eq_true c4
            try have c4b2 : (9223372036854775807 < (strOfNums y165).size + x3_1.size) = False := eq_false (Nat.not_lt.2 c4)
            have H' := Aside0.mk H
            clear H
            go_wp2_with (first | ((with_reducible refine gate_dst (N := 12) rfl ?_); refine Kd.R_lit (Kd.int .u8) _ 5 ?hg (N := 12) ?hd (xs := ([(wrap64 (48 + (Int.tmod x0_1 10))) % 256] : List Int)) (inner := [.int .u8 ((wrap64 (48 + (Int.tmod x0_1 10))) % 256)]) (ok := fun _ => True) (okp := fun _ => True) ?hr ?hp (fun _ hk => hk) trivial (Below.refl _ _) (Nat.le_refl _) (by simp) ?_; (case hd => rfl); (case hg => rfl); (case hr => first | (go_simp; done) | (go_simp; rfl)); (case hp => exact (Reps.one (show Kd.M (Kd.int .u8) _ _ _ ((wrap64 (48 + (Int.tmod x0_1 10))) % 256) [.int .u8 ((wrap64 (48 + (Int.tmod x0_1 10))) % 256)] from rfl) (Reps.none _ _))); intro v166 w5 ho6 hb hg_ hnew_; clear hg_ hnew_; (first | rw [← Ny165.out] at ho6 | (simp only [Int.reduceToNat] at ho6; rw [← Ny165.out] at ho6)); have n0_ := Aside0.mk (Kd.R_lower ho6 (below_size (by repeat (first | (with_reducible first | exact HB.out | apply below_alloc | apply pw_below_drewN | apply below_drew1) | exact HB.out)))); have n1_ := Aside0.mk (below_step (by repeat (first | (with_reducible first | exact HB.out | apply below_alloc | apply pw_below_drewN | apply below_drew1) | exact HB.out)) hb); clear HB; have HO167 := n0_; have HB := n1_; clear n0_ n1_; clear hb ho6; have hcv7 := own_string (P := Try.prog) Try.underlying47 Try.underlying5 Try.underlying9 (Kd.own_of_R HO167.out)))
            go_roundg k1
            case measure => have := HK1.out; omega
            case rel => exact ⟨(wrap64 (Int.tdiv x0_1 10)), ((strOfNums y165) ++ x3_1), (by first | rfl | (simp; done) | (simp [*]; done)), (by first | rfl | (simp; done) | (simp [*]; done)), H', ⟨by have := HK1.out; omega⟩, ⟨by repeat (first | (with_reducible first | exact HB.out | apply below_alloc | apply pw_below_drewN | apply below_drew1) | exact HB.out)⟩⟩
          · rw [if_neg c4] at H
            exact absurd H (by simp)
        · rw [if_neg c3] at H
          have c3b0 : decide (0 < x0_1) = false := decide_eq_false c3
          clear c3
          by_cases c8 : 1 + x3_1.size ≤ 9223372036854775807
          · rw [if_pos c8] at H
            have c8b0 := eq_true c8
            have c8b1 : decide (1 + x3_1.size ≤ 9223372036854775807) = true := decide_eq_true c8
            try have c8b2 : (9223372036854775807 < 1 + x3_1.size) = False := eq_false (Nat.not_lt.2 c8)
            obtain rfl := Option.some.inj H
            go_wp2
            go_ret
            exact ⟨by first | rfl | (simp [errW_none, errW_some] <;> rfl) | (simp [*, errW_none, errW_some] <;> rfl), by repeat (first | (with_reducible first | exact HB.out | apply below_alloc | apply pw_below_drewN | apply below_drew1) | exact HB.out)⟩
          · rw [if_neg c8] at H
            exact absurd H (by simp)

end Go.Proofs.Ytbnkdfmomcmmaaa.P


namespace Go.Proofs.Ytbnkdfmomcmmaaa.P
open Go.RowKit Go.Proofs.YtbnkdfmomcmmaaaW.PrintWords Go.Proofs.YtbnkdfmomcmmaaaW.PrintLast Go.Proofs.YtbnkdfmomcmmaaaW.PrintMore
attribute [local go_sem] max2_int min2_int max_two min_two max_three min_three max_four min_four   -- for this text's walks alone
set_option linter.unusedVariables false
set_option linter.unusedSimpArgs false

def laws_markStringS.l0 : Nat → List ByteArray → Int → Int → Option (Int × List ByteArray)
  | 0, _, _, _ => none
  | k + 1, x0, x1, x5 => if x5 < (x0.length : Int) then ((laws_markText.f k x1).bind fun t168 => (if 0 ≤ x5 then (laws_markStringS.l0 k (x0.set (x5 : Int).toNat t168) (wrap64 (x1 + 1)) (wrap64 (x5 + 1))) else (none))) else (some (x1, x0))
def laws_markStringS.f (k : Nat) (l0 : List ByteArray) (a1 : Int) : Option (Int × List ByteArray) := laws_markStringS.l0 k l0 a1 0
theorem laws_markStringS.mono_l : ∀ k, (∀ y0 y1 y2, LeO (laws_markStringS.l0 k y0 y1 y2) (laws_markStringS.l0 (k + 1) y0 y1 y2))
  | 0 => fun _ _ _ r h => by simp [laws_markStringS.l0] at h
  | k + 1 => by
    have ih0 := laws_markStringS.mono_l k
    · intro y0 y1 y2
      unfold laws_markStringS.l0
      repeat' first
      | (with_reducible exact ih0 _ _ _)
      | (with_reducible exact laws_markText.mono _ _)
      | (with_reducible exact LeO.refl _)
      | (with_reducible exact LeO.none _)
      | (with_reducible refine LeO.ite ?_ ?_)
      | (with_reducible refine LeO.bind ?_ (fun _ => ?_))
      | exact ih0 _ _ _
      | exact laws_markText.mono _ _
      | exact LeO.none _
      | refine LeO.ite ?_ ?_
      | refine LeO.bind ?_ (fun _ => ?_)
theorem laws_markStringS.mono : ∀ a0 a1 k, LeO (laws_markStringS.f k a0 a1) (laws_markStringS.f (k + 1) a0 a1) := by
  intro a0 a1 k
  have ih0 := laws_markStringS.mono_l k
  unfold laws_markStringS.f
  repeat' first
      | (with_reducible exact ih0 _ _ _)
      | (with_reducible exact laws_markText.mono _ _)
      | (with_reducible exact LeO.refl _)
      | (with_reducible exact LeO.none _)
      | (with_reducible refine LeO.ite ?_ ?_)
      | (with_reducible refine LeO.bind ?_ (fun _ => ?_))
      | exact ih0 _ _ _
      | exact laws_markText.mono _ _
      | exact LeO.none _
      | refine LeO.ite ?_ ?_
      | refine LeO.bind ?_ (fun _ => ?_)
set_option maxHeartbeats 8000000 in
set_option maxRecDepth 100000 in
theorem laws_markStringS.calls (k : Nat) (P0_ : Nat → Prop) (u9000_ : Value) (l0 : List ByteArray) (a1 : Int) (r1 : Int) (r2 : List ByteArray) (w0 w : World) (hB : Below w0.heap.size w0 w) (ho0 : Kd.R Kd.string 9 w w0.heap.size P0_ u9000_ l0) (h : laws_markStringS.f k l0 a1 = some (r1, r2)) :
    Calls Try.prog 11 #[u9000_, .int .i64 a1] w fun e w' => e = .returned (.int .i64 r1) ∧ Kd.R Kd.string 9 w' w0.heap.size (fun k_ => (P0_ k_ ∨ w.heap.size ≤ k_)) u9000_ r2 ∧ Below w0.heap.size w0 w' ∧ Kept w w' (fun k_ => P0_ k_) := by
  have HO0 := Aside0.mk (show Kd.R Kd.string 9 w w0.heap.size (fun k_ => (P0_ k_ ∨ w.heap.size ≤ k_)) u9000_ l0 from Kd.R_mono ho0 (fun k_ hk => (.inl hk)))
  have HK := Aside0.mk (Kept.refl w (fun k_ => P0_ k_))
  have HW0 := Aside0.mk hB.size
  have HB := Aside0.mk hB
  clear hB
  have H : (laws_markStringS.l0 k l0 a1 0) = some (r1, r2) := h
  clear h
  have H' := Aside0.mk H
  clear H
  go_enter Try.func11, Try.ntmps11
  go_wp2
  go_loopg [1, 5] k (fun kq v1 v5 w' => ∃ (x0_1 : List ByteArray) (x1_1 : Int) (x5_1 : Int), v1 = .int .i64 x1_1 ∧ v5 = .int .i64 x5_1 ∧ Aside0 (laws_markStringS.l0 kq x0_1 x1_1 x5_1 = some (r1, r2)) ∧ Aside0 (kq ≤ k) ∧ Aside0 (Kd.R Kd.string 9 w' w0.heap.size (fun k_ => (P0_ k_ ∨ w.heap.size ≤ k_)) u9000_ x0_1) ∧ Aside0 (Kept w w' (fun k_ => P0_ k_)) ∧ Aside0 (Below w0.heap.size w0 w'))
  case atStart => exact ⟨(l0), (a1), (0), (by first | rfl | (simp; done) | (simp [*]; done)), (by first | rfl | (simp; done) | (simp [*]; done)), H', ⟨Nat.le_refl _⟩, ⟨by (with_reducible repeat (first | apply Kd.R_alloc | apply Kd.R_drewN | apply Kd.R_drew)); exact HO0.out⟩, ⟨by repeat (first | (with_reducible first | exact HK.out | apply Kept.alloc | apply Kept.drewN | apply Kept.drew) | exact HK.out)⟩, ⟨by repeat (first | (with_reducible first | exact HB.out | apply below_alloc | apply pw_below_drewN | apply below_drew1) | exact HB.out)⟩⟩
  case round =>
    clear H'
    try clear c1
    try clear p2
    obtain ⟨x0_1, x1_1, x5_1, rfl, rfl, HA, HK1, HO_0, HK, HB⟩ := hrel
    cases gk with
    | zero => exact absurd HA.out (by simp [laws_markStringS.l0])
    | succ k1 =>
      have H := HA.out
      clear HA
      simp only [laws_markStringS.l0] at H
      by_cases c3 : x5_1 < (x0_1.length : Int)
      · rw [if_pos c3] at H
        have c3b0 : decide (x5_1 < (x0_1.length : Int)) = true := decide_eq_true c3
        clear c3
        replace H := Option.bind_eq_some_iff.mp H
        obtain ⟨t168, A40, H⟩ := H
        replace H : (if 0 ≤ x5_1 then (laws_markStringS.l0 k1 (x0_1.set (x5_1 : Int).toNat t168) (wrap64 (x1_1 + 1)) (wrap64 (x5_1 + 1))) else (none)) = some (r1, r2) := H
        have A4 := Aside0.mk A40
        clear A40
        by_cases c5 : 0 ≤ x5_1
        · rw [if_pos c5] at H
          have c5b0 : decide (0 ≤ x5_1) = true := decide_eq_true c5
          clear c5
          obtain ⟨y169, hy169⟩ : ∃ y_ : List ByteArray, y_ = (x0_1.set (x5_1 : Int).toNat t168) := ⟨_, rfl⟩
          replace H : (laws_markStringS.l0 k1 y169 (wrap64 (x1_1 + 1)) (wrap64 (x5_1 + 1))) = some (r1, r2) := by first | (rw [hy169]; with_reducible exact H) | (have H2_ := (Option.bind_some _ _).symm.trans H; rw [hy169]; with_reducible exact H2_) | (have H2_ := (Option.bind_some _ _).symm.trans H; with_reducible exact H2_) | with_reducible exact H | (rw [hy169]; exact H) | exact H
          have Ny169 := Aside0.mk hy169
          clear hy169
          have H' := Aside0.mk H
          clear H
          obtain ⟨Ao7, co7, eo7⟩ := Kd.R_slice HO_0.out
          subst eo7
          go_wp2_with (first | ((with_reducible refine gate_callee (f := 22) rfl ?_); refine goesL_ (some 15) rfl rfl Try.func22 (by kernel_rfl) rfl #[.int .i64 x1_1] rfl (by (try simp only [List.map_toArray, List.map_cons, List.map_nil]); first | done | rfl | (simp only [List.length_drop, List.length_take]; rfl)) ?_; (with_reducible refine (laws_markText.calls k1 x1_1 t168 _ A4.out).mono ?_); rintro e w8 ⟨rfl, hb⟩; refine ⟨_, rfl, ?_⟩; have n0_ := Aside0.mk (Kd.R_below (by (with_reducible repeat (first | apply Kd.R_alloc | apply Kd.R_drewN | apply Kd.R_drew)); exact HO_0.out) hb); have n1_ := Aside0.mk (Kept.below (S := (fun k_ => P0_ k_)) (by repeat (first | (with_reducible first | exact HK.out | apply Kept.alloc | apply Kept.drewN | apply Kept.drew) | exact HK.out)) hb); have n2_ := Aside0.mk (below_step (by repeat (first | (with_reducible first | exact HB.out | apply below_alloc | apply pw_below_drewN | apply below_drew1) | exact HB.out)) hb); clear HO_0; clear HK; clear HB; have HO_0 := n0_; have HK := n1_; have HB := n2_; clear n0_ n1_ n2_; (try clear hb); (try clear hb2); (try clear hk); (try clear hi); have p6 : 0 ≤ (x5_1 : Int) := of_decide_eq_true (by first | (with_reducible assumption) | assumption); have q6 : (x5_1 : Int) < ((x0_1.length : Int) : Int) := of_decide_eq_true (by first | (with_reducible assumption) | assumption); obtain ⟨go6, co6, eo6, gb6, gl6, cl6, HG6⟩ := Kd.R_form HO_0.out (by omega); (first | cases eo6 | (injection eo6 with ea_ en_ ec_; (first | subst ea_ | (injection ea_ with ea_; subst ea_)); subst ec_; clear en_)); have GB6 := Aside0.mk gb6; have GG6 := Aside0.mk HG6; clear gb6 gl6 HG6; have HMgo6 := Aside0.mk (show (P0_ go6 ∨ w.heap.size ≤ go6) from (HO_0.out.1 _ rfl)); obtain ⟨hx6_0, hf6_0⟩ := Kd.R_celln (⟨#[]⟩ : ByteArray) HO_0.out (x5_1 : Int) p6 q6; replace p6 := eq_true p6; replace q6 := eq_true q6; obtain ⟨hy9_, hz9_⟩ := Kd.R_celln (⟨#[]⟩ : ByteArray) HO_0.out (x5_1 : Int) (of_decide_eq_true (by first | (with_reducible assumption) | assumption)) (of_decide_eq_true (by first | (with_reducible assumption) | assumption)); have HP9 := Kd.R_putg HO_0.out (x5_1 : Int) t168) | ((with_reducible refine gate_store (t := 9) (p := 16) rfl ?_); refine store_event (t := 9) (p := 16) (v := ?vo_w10) (w1 := (w8.setCell ⟨go6, (x5_1 : Int).toNat, none⟩ (.string t168))) ?hg ?ho ?hn ?hr ?_; (case ho => rfl); (case hg => rfl); (case hn => rfl); (case hr => first | (go_simp; done) | (go_simp; rfl)); intro w10 hw; have hg : w8.grownBy w10 (some go6) := (by rw [hw]; exact HP9.2); have hp_ : Kd.R Kd.string 9 w10 w0.heap.size (fun k_ => (P0_ k_ ∨ w.heap.size ≤ k_)) (.slice (some ⟨go6, 0, none⟩) x0_1.length co7) y169 := (by rw [hw, Ny169.out]; exact HP9.1); clear HP9; have n0_ := Aside0.mk (hp_); have n1_ := Aside0.mk ((by rw [hw]; exact below_set (HB.out) GB6.out : Below w0.heap.size w0 w10)); have n2_ := Aside0.mk (Kept.of_grown (S := (fun k_ => P0_ k_)) hg (by repeat (first | (with_reducible first | exact HK.out | apply Kept.alloc | apply Kept.drewN | apply Kept.drew) | exact HK.out)) (fun k_ e_ => (HO_0.out.1 k_ e_))); clear HO_0; clear HB; clear HK; have HO_0 := n0_; have HB := n1_; have HK := n2_; clear n0_ n1_ n2_; clear hg hw hp_))
          go_roundg k1
          case measure => have := HK1.out; omega
          case rel => exact ⟨(y169), (wrap64 (x1_1 + 1)), (wrap64 (x5_1 + 1)), (by first | rfl | (simp; done) | (simp [*]; done)), (by first | rfl | (simp; done) | (simp [*]; done)), H', ⟨by have := HK1.out; omega⟩, ⟨by (with_reducible repeat (first | apply Kd.R_alloc | apply Kd.R_drewN | apply Kd.R_drew)); exact HO_0.out⟩, ⟨by repeat (first | (with_reducible first | exact HK.out | apply Kept.alloc | apply Kept.drewN | apply Kept.drew) | exact HK.out)⟩, ⟨by repeat (first | (with_reducible first | exact HB.out | apply below_alloc | apply pw_below_drewN | apply below_drew1) | exact HB.out)⟩⟩
        · rw [if_neg c5] at H
          exact absurd H (by simp)
      · rw [if_neg c3] at H
        have c3b0 : decide (x5_1 < (x0_1.length : Int)) = false := decide_eq_false c3
        clear c3
        simp only [Option.some.injEq, Prod.mk.injEq] at H
        obtain ⟨rfl, rfl⟩ := H
        obtain ⟨Ao11, co11, eo11⟩ := Kd.R_slice HO_0.out
        subst eo11
        go_wp2
        go_ret
        exact ⟨by first | rfl | (simp [errW_none, errW_some] <;> rfl) | (simp [*, errW_none, errW_some] <;> rfl), by (with_reducible repeat (first | apply Kd.R_alloc | apply Kd.R_drewN | apply Kd.R_drew)); exact HO_0.out, by repeat (first | (with_reducible first | exact HB.out | apply below_alloc | apply pw_below_drewN | apply below_drew1) | exact HB.out), by repeat (first | (with_reducible first | exact HK.out | apply Kept.alloc | apply Kept.drewN | apply Kept.drew) | exact HK.out)⟩

end Go.Proofs.Ytbnkdfmomcmmaaa.P


namespace Go.Proofs.Ytbnkdfmomcmmaaa.P
open Go.RowKit Go.Proofs.YtbnkdfmomcmmaaaW.PrintWords Go.Proofs.YtbnkdfmomcmmaaaW.PrintLast Go.Proofs.YtbnkdfmomcmmaaaW.PrintMore
attribute [local go_sem] max2_int min2_int max_two min_two max_three min_three max_four min_four   -- for this text's walks alone
set_option linter.unusedVariables false
set_option linter.unusedSimpArgs false

def laws_heldStringS.l0 : Nat → List ByteArray → Int → Int → Option (Int)
  | 0, _, _, _ => none
  | k + 1, x0, x1, x5 => if x5 < (x0.length : Int) then (if 0 ≤ x5 then ((laws_markText.f k x1).bind fun t171 => (if (rdOf ByteArray.empty x0 x5).toList = t171.toList then (laws_heldStringS.l0 k x0 (wrap64 (x1 + 1)) (wrap64 (x5 + 1))) else (some (-1)))) else (none)) else (some x1)
def laws_heldStringS.f (k : Nat) (l0 : List ByteArray) (a1 : Int) : Option (Int) := laws_heldStringS.l0 k l0 a1 0
theorem laws_heldStringS.mono_l : ∀ k, (∀ y0 y1 y2, LeO (laws_heldStringS.l0 k y0 y1 y2) (laws_heldStringS.l0 (k + 1) y0 y1 y2))
  | 0 => fun _ _ _ r h => by simp [laws_heldStringS.l0] at h
  | k + 1 => by
    have ih0 := laws_heldStringS.mono_l k
    · intro y0 y1 y2
      unfold laws_heldStringS.l0
      repeat' first
      | (with_reducible exact ih0 _ _ _)
      | (with_reducible exact laws_markText.mono _ _)
      | (with_reducible exact LeO.refl _)
      | (with_reducible exact LeO.none _)
      | (with_reducible refine LeO.ite ?_ ?_)
      | (with_reducible refine LeO.bind ?_ (fun _ => ?_))
      | exact ih0 _ _ _
      | exact laws_markText.mono _ _
      | exact LeO.none _
      | refine LeO.ite ?_ ?_
      | refine LeO.bind ?_ (fun _ => ?_)
theorem laws_heldStringS.mono : ∀ a0 a1 k, LeO (laws_heldStringS.f k a0 a1) (laws_heldStringS.f (k + 1) a0 a1) := by
  intro a0 a1 k
  have ih0 := laws_heldStringS.mono_l k
  unfold laws_heldStringS.f
  repeat' first
      | (with_reducible exact ih0 _ _ _)
      | (with_reducible exact laws_markText.mono _ _)
      | (with_reducible exact LeO.refl _)
      | (with_reducible exact LeO.none _)
      | (with_reducible refine LeO.ite ?_ ?_)
      | (with_reducible refine LeO.bind ?_ (fun _ => ?_))
      | exact ih0 _ _ _
      | exact laws_markText.mono _ _
      | exact LeO.none _
      | refine LeO.ite ?_ ?_
      | refine LeO.bind ?_ (fun _ => ?_)
set_option maxHeartbeats 8000000 in
set_option maxRecDepth 100000 in
theorem laws_heldStringS.calls (k : Nat) (A0 : Option Addr) (c0 : Nat) (l0 : List ByteArray) (a1 : Int) (r : Int) (w : World) (hr0 : Kd.C Kd.string w A0 l0.length l0) (hc0 : l0.length ≤ c0) (h : laws_heldStringS.f k l0 a1 = some r) :
    Calls Try.prog 12 #[.slice A0 l0.length c0, .int .i64 a1] w fun e w' => e = .returned (.int .i64 r) ∧ Below w.heap.size w w' := by
  have HR0 := Aside0.mk hr0
  have HC0 := Aside0.mk hc0
  clear hr0 hc0
  have HB := Aside0.mk (Below.refl w.heap.size w)
  have H : (laws_heldStringS.l0 k l0 a1 0) = some r := h
  clear h
  have H' := Aside0.mk H
  clear H
  go_enter Try.func12, Try.ntmps12
  go_wp2
  go_loopg [1, 5] k (fun kq v1 v5 w' => ∃ (x1_1 : Int) (x5_1 : Int), v1 = .int .i64 x1_1 ∧ v5 = .int .i64 x5_1 ∧ Aside0 (laws_heldStringS.l0 kq l0 x1_1 x5_1 = some r) ∧ Aside0 (kq ≤ k) ∧ Aside0 (Below w.heap.size w w'))
  case atStart => exact ⟨(a1), (0), (by first | rfl | (simp; done) | (simp [*]; done)), (by first | rfl | (simp; done) | (simp [*]; done)), H', ⟨Nat.le_refl _⟩, ⟨by repeat (first | (with_reducible first | exact HB.out | apply below_alloc | apply pw_below_drewN | apply below_drew1) | exact HB.out)⟩⟩
  case round =>
    clear H'
    try clear c1
    try clear p2
    obtain ⟨x1_1, x5_1, rfl, rfl, HA, HK1, HB⟩ := hrel
    cases gk with
    | zero => exact absurd HA.out (by simp [laws_heldStringS.l0])
    | succ k1 =>
      have H := HA.out
      clear HA
      simp only [laws_heldStringS.l0] at H
      by_cases c3 : x5_1 < (l0.length : Int)
      · rw [if_pos c3] at H
        have c3b0 : decide (x5_1 < (l0.length : Int)) = true := decide_eq_true c3
        clear c3
        by_cases c4 : 0 ≤ x5_1
        · rw [if_pos c4] at H
          have c4b0 : decide (0 ≤ x5_1) = true := decide_eq_true c4
          clear c4
          replace H := Option.bind_eq_some_iff.mp H
          obtain ⟨t171, A50, H⟩ := H
          replace H : (if (rdOf ByteArray.empty l0 x5_1).toList = t171.toList then (laws_heldStringS.l0 k1 l0 (wrap64 (x1_1 + 1)) (wrap64 (x5_1 + 1))) else (some (-1))) = some r := H
          have A5 := Aside0.mk A50
          clear A50
          by_cases c6 : (rdOf ByteArray.empty l0 x5_1).toList = t171.toList
          · rw [if_pos c6] at H
            have c6b0 : ((rdOf ByteArray.empty l0 x5_1).toList == t171.toList) = true := beq_iff_eq.mpr c6
            have c6b1 : ((rdOf ByteArray.empty l0 x5_1).toList != t171.toList) = false := bne_eq_false_iff_eq.mpr c6
            clear c6
            have H' := Aside0.mk H
            clear H
            try go_wp2
            have n0_ := Aside0.mk (below_drew1 HB.out)
            clear HB
            have HB := n0_
            clear n0_
            have p170 : 0 ≤ (x5_1 : Int) := of_decide_eq_true (by first | (with_reducible assumption) | assumption)
            have q170 : x5_1 < (l0.length : Int) := of_decide_eq_true (by first | (with_reducible assumption) | assumption)
            obtain ⟨ad170, e170, hx170_0⟩ := Kd.at_string HR0.out x5_1 p170 q170
            have hw170_0 := hx170_0
            cases e170
            replace hx170_0 := (HB.out.cell (World.block_lt_of_cell? w _ hx170_0)).trans hx170_0
            replace p170 := eq_true p170
            replace q170 := eq_true q170
            refine start_ (n := 7) (S := fun w' => w'.cell? (ad170.add (x5_1).toNat) = some (.string (rdOf ByteArray.empty l0 x5_1))) (ds := []) #[false, false, false, false, false, false, false] (by kernel_rfl) rfl rfl (((HB.out.cell (World.block_lt_of_cell? w _ hw170_0)).trans hw170_0)) (fun hHeld => ?_)
            generalize wr.drew = w7 at HB hx170_0 hHeld ⊢
            refine pure_ (i := 0) (N := some 12) (v := ?_) (a' := ?_) #[true, false, false, false, false, false, false] rfl rfl (by kernel_rfl) (fun _ _ _ h => h) (Or.inl ⟨by rfl, ?_⟩) ?_ ?_
            rotate_left
            · intro w'
              go_simp
              with_reducible rfl
            rotate_left
            · simp only [Act.put, List.setIfInBounds_toArray, List.set_cons_zero, List.set_cons_succ, i64_w, i32_w]
              rfl
            refine pure_ (i := 1) (N := some 13) (v := ?_) (a' := ?_) #[true, true, false, false, false, false, false] rfl rfl (by kernel_rfl) (fun _ _ _ h => h) (Or.inl ⟨by rfl, ?_⟩) ?_ ?_
            rotate_left
            · intro w'
              go_simp
              with_reducible rfl
            rotate_left
            · simp only [Act.put, List.setIfInBounds_toArray, List.set_cons_zero, List.set_cons_succ, i64_w, i32_w]
              rfl
            refine pure_ (i := 2) (N := some 14) (v := ?_) (a' := ?_) #[true, true, true, false, false, false, false] rfl rfl (by kernel_rfl) (fun _ _ _ h => h) (Or.inl ⟨by rfl, ?_⟩) ?_ ?_
            rotate_left
            · intro w'
              go_simp
              with_reducible rfl
            rotate_left
            · simp only [Act.put, List.setIfInBounds_toArray, List.set_cons_zero, List.set_cons_succ, i64_w, i32_w]
              rfl
            refine pure_ (i := 4) (N := some 16) (v := ?_) (a' := ?_) #[true, true, true, false, true, false, false] rfl rfl (by kernel_rfl) (fun _ _ _ h => h) (Or.inl ⟨by rfl, ?_⟩) ?_ ?_
            rotate_left
            · intro w'
              go_simp
              with_reducible rfl
            rotate_left
            · simp only [Act.put, List.setIfInBounds_toArray, List.set_cons_zero, List.set_cons_succ, i64_w, i32_w]
              rfl
            refine take_ (i := 3) (N := some 15) (v := ?_) (a' := ?_) #[true, true, true, true, true, false, false] rfl rfl (by kernel_rfl) (fun _ _ _ h => h) (Or.inl ⟨by rfl, ?_⟩) hHeld ?_ ?_
            rotate_left
            · intro w' s0
              go_simp
              with_reducible rfl
            rotate_left
            · simp only [Act.put, List.setIfInBounds_toArray, List.set_cons_zero, List.set_cons_succ, i64_w, i32_w]
              rfl
            refine one_ (i := 5) (N := some 17) #[true, true, true, true, true, true, false] rfl rfl (by kernel_rfl) (by decide) (fun K hK => ?_)
            refine goes_ Try.func22 (by kernel_rfl) rfl #[.int .i64 x1_1] (by rfl) rfl rfl (by (try simp only [List.map_toArray, List.map_cons, List.map_nil]); first | done | rfl | (simp only [List.length_drop, List.length_take]; rfl)) ?_
            with_reducible refine (laws_markText.calls k1 x1_1 t171 _ A5.out).mono ?_
            rintro e w8 ⟨rfl, hb⟩
            refine ⟨_, rfl, ?_⟩
            have n0_ := Aside0.mk (below_step (by repeat (first | (with_reducible first | exact HB.out | apply below_alloc | apply pw_below_drewN | apply below_drew1) | exact HB.out)) hb)
            clear HB
            have HB := n0_
            clear n0_
            (try clear hb)
            (try clear hb2)
            (try clear hk)
            (try clear hi)
            refine hK.out _ _ (((HB.out.cell (World.block_lt_of_cell? w _ hw170_0)).trans hw170_0)) (fun hHeld => ?_)
            clear hK K
            refine norm_ (a' := ?_) ?_ ?_
            rotate_left
            · show Act.put _ (some 17) _ = _
              simp only [Act.put, List.setIfInBounds_toArray, List.set_cons_zero, List.set_cons_succ, i64_w, i32_w]
              rfl
            refine pure_ (i := 6) (N := some 18) (v := ?_) (a' := ?_) #[true, true, true, true, true, true, true] rfl rfl (by kernel_rfl) (fun _ _ _ h => h) (Or.inl ⟨by rfl, ?_⟩) ?_ ?_
            rotate_left
            · intro w'
              go_simp
              with_reducible rfl
            rotate_left
            · simp only [Act.put, List.setIfInBounds_toArray, List.set_cons_zero, List.set_cons_succ, i64_w, i32_w]
              rfl
            refine done_ (by kernel_rfl) ?_
            try go_wp2
            go_roundg k1
            case measure => have := HK1.out; omega
            case rel => exact ⟨(wrap64 (x1_1 + 1)), (wrap64 (x5_1 + 1)), (by first | rfl | (simp; done) | (simp [*]; done)), (by first | rfl | (simp; done) | (simp [*]; done)), H', ⟨by have := HK1.out; omega⟩, ⟨by repeat (first | (with_reducible first | exact HB.out | apply below_alloc | apply pw_below_drewN | apply below_drew1) | exact HB.out)⟩⟩
          · rw [if_neg c6] at H
            have c6b0 : ((rdOf ByteArray.empty l0 x5_1).toList == t171.toList) = false := beq_eq_false_iff_ne.mpr c6
            have c6b1 : ((rdOf ByteArray.empty l0 x5_1).toList != t171.toList) = true := bne_iff_ne.mpr c6
            obtain rfl := Option.some.inj H
            try go_wp2
            have n0_ := Aside0.mk (below_drew1 HB.out)
            clear HB
            have HB := n0_
            clear n0_
            have p170 : 0 ≤ (x5_1 : Int) := of_decide_eq_true (by first | (with_reducible assumption) | assumption)
            have q170 : x5_1 < (l0.length : Int) := of_decide_eq_true (by first | (with_reducible assumption) | assumption)
            obtain ⟨ad170, e170, hx170_0⟩ := Kd.at_string HR0.out x5_1 p170 q170
            have hw170_0 := hx170_0
            cases e170
            replace hx170_0 := (HB.out.cell (World.block_lt_of_cell? w _ hx170_0)).trans hx170_0
            replace p170 := eq_true p170
            replace q170 := eq_true q170
            refine start_ (n := 7) (S := fun w' => w'.cell? (ad170.add (x5_1).toNat) = some (.string (rdOf ByteArray.empty l0 x5_1))) (ds := []) #[false, false, false, false, false, false, false] (by kernel_rfl) rfl rfl (((HB.out.cell (World.block_lt_of_cell? w _ hw170_0)).trans hw170_0)) (fun hHeld => ?_)
            generalize wr.drew = w9 at HB hx170_0 hHeld ⊢
            refine pure_ (i := 0) (N := some 12) (v := ?_) (a' := ?_) #[true, false, false, false, false, false, false] rfl rfl (by kernel_rfl) (fun _ _ _ h => h) (Or.inl ⟨by rfl, ?_⟩) ?_ ?_
            rotate_left
            · intro w'
              go_simp
              with_reducible rfl
            rotate_left
            · simp only [Act.put, List.setIfInBounds_toArray, List.set_cons_zero, List.set_cons_succ, i64_w, i32_w]
              rfl
            refine pure_ (i := 1) (N := some 13) (v := ?_) (a' := ?_) #[true, true, false, false, false, false, false] rfl rfl (by kernel_rfl) (fun _ _ _ h => h) (Or.inl ⟨by rfl, ?_⟩) ?_ ?_
            rotate_left
            · intro w'
              go_simp
              with_reducible rfl
            rotate_left
            · simp only [Act.put, List.setIfInBounds_toArray, List.set_cons_zero, List.set_cons_succ, i64_w, i32_w]
              rfl
            refine pure_ (i := 2) (N := some 14) (v := ?_) (a' := ?_) #[true, true, true, false, false, false, false] rfl rfl (by kernel_rfl) (fun _ _ _ h => h) (Or.inl ⟨by rfl, ?_⟩) ?_ ?_
            rotate_left
            · intro w'
              go_simp
              with_reducible rfl
            rotate_left
            · simp only [Act.put, List.setIfInBounds_toArray, List.set_cons_zero, List.set_cons_succ, i64_w, i32_w]
              rfl
            refine pure_ (i := 4) (N := some 16) (v := ?_) (a' := ?_) #[true, true, true, false, true, false, false] rfl rfl (by kernel_rfl) (fun _ _ _ h => h) (Or.inl ⟨by rfl, ?_⟩) ?_ ?_
            rotate_left
            · intro w'
              go_simp
              with_reducible rfl
            rotate_left
            · simp only [Act.put, List.setIfInBounds_toArray, List.set_cons_zero, List.set_cons_succ, i64_w, i32_w]
              rfl
            refine take_ (i := 3) (N := some 15) (v := ?_) (a' := ?_) #[true, true, true, true, true, false, false] rfl rfl (by kernel_rfl) (fun _ _ _ h => h) (Or.inl ⟨by rfl, ?_⟩) hHeld ?_ ?_
            rotate_left
            · intro w' s0
              go_simp
              with_reducible rfl
            rotate_left
            · simp only [Act.put, List.setIfInBounds_toArray, List.set_cons_zero, List.set_cons_succ, i64_w, i32_w]
              rfl
            refine one_ (i := 5) (N := some 17) #[true, true, true, true, true, true, false] rfl rfl (by kernel_rfl) (by decide) (fun K hK => ?_)
            refine goes_ Try.func22 (by kernel_rfl) rfl #[.int .i64 x1_1] (by rfl) rfl rfl (by (try simp only [List.map_toArray, List.map_cons, List.map_nil]); first | done | rfl | (simp only [List.length_drop, List.length_take]; rfl)) ?_
            with_reducible refine (laws_markText.calls k1 x1_1 t171 _ A5.out).mono ?_
            rintro e w10 ⟨rfl, hb⟩
            refine ⟨_, rfl, ?_⟩
            have n0_ := Aside0.mk (below_step (by repeat (first | (with_reducible first | exact HB.out | apply below_alloc | apply pw_below_drewN | apply below_drew1) | exact HB.out)) hb)
            clear HB
            have HB := n0_
            clear n0_
            (try clear hb)
            (try clear hb2)
            (try clear hk)
            (try clear hi)
            refine hK.out _ _ (((HB.out.cell (World.block_lt_of_cell? w _ hw170_0)).trans hw170_0)) (fun hHeld => ?_)
            clear hK K
            refine norm_ (a' := ?_) ?_ ?_
            rotate_left
            · show Act.put _ (some 17) _ = _
              simp only [Act.put, List.setIfInBounds_toArray, List.set_cons_zero, List.set_cons_succ, i64_w, i32_w]
              rfl
            refine pure_ (i := 6) (N := some 18) (v := ?_) (a' := ?_) #[true, true, true, true, true, true, true] rfl rfl (by kernel_rfl) (fun _ _ _ h => h) (Or.inl ⟨by rfl, ?_⟩) ?_ ?_
            rotate_left
            · intro w'
              go_simp
              with_reducible rfl
            rotate_left
            · simp only [Act.put, List.setIfInBounds_toArray, List.set_cons_zero, List.set_cons_succ, i64_w, i32_w]
              rfl
            refine done_ (by kernel_rfl) ?_
            try go_wp2
            go_ret
            exact ⟨by first | rfl | (simp [errW_none, errW_some] <;> rfl) | (simp [*, errW_none, errW_some] <;> rfl), by repeat (first | (with_reducible first | exact HB.out | apply below_alloc | apply pw_below_drewN | apply below_drew1) | exact HB.out)⟩
        · rw [if_neg c4] at H
          exact absurd H (by simp)
      · rw [if_neg c3] at H
        have c3b0 : decide (x5_1 < (l0.length : Int)) = false := decide_eq_false c3
        clear c3
        obtain rfl := Option.some.inj H
        go_wp2
        go_ret
        exact ⟨by first | rfl | (simp [errW_none, errW_some] <;> rfl) | (simp [*, errW_none, errW_some] <;> rfl), by repeat (first | (with_reducible first | exact HB.out | apply below_alloc | apply pw_below_drewN | apply below_drew1) | exact HB.out)⟩

end Go.Proofs.Ytbnkdfmomcmmaaa.P


namespace Go.Proofs.Ytbnkdfmomcmmaaa.P
open Go.RowKit Go.Proofs.YtbnkdfmomcmmaaaW.PrintWords Go.Proofs.YtbnkdfmomcmmaaaW.PrintLast Go.Proofs.YtbnkdfmomcmmaaaW.PrintMore
attribute [local go_sem] max2_int min2_int max_two min_two max_three min_three max_four min_four   -- for this text's walks alone
set_option linter.unusedVariables false
set_option linter.unusedSimpArgs false

mutual
def laws_FnExactAllLoops.j0 : Nat → Int → List ByteArray → Bool → List ByteArray → Bool → Option (Bool)
  | 0, _, _, _, _, _ => none
  | k + 1, x0, x3, x4, x5, x29 => if x29 = true then (some false) else ((laws_markStringS.f k x5 101).bind fun bt181 => ((laws_heldStringS.f k bt181.2 101).bind fun t183 => (if t183 < 0 then (some false) else (if t183 = bt181.1 then ((impl_AllLoops.f x0).bind fun bt184 => ((laws_eqStringS.f k bt184.1 x3).bind fun t188 => (if t188 = true then (laws_FnExactAllLoops.j1 k bt181.2 bt181.1 (bt184.2 != x4)) else (laws_FnExactAllLoops.j1 k bt181.2 bt181.1 true)))) else (some false)))))
def laws_FnExactAllLoops.j1 : Nat → List ByteArray → Int → Bool → Option (Bool)
  | 0, _, _, _ => none
  | k + 1, x5, x7, x54 => if x54 = true then (some false) else ((laws_heldStringS.f k x5 101).bind fun t189 => (if t189 < 0 then (some false) else (if t189 = x7 then (some true) else (some false))))
end
def laws_FnExactAllLoops.f (k : Nat) (a0 : Int) : Option (Bool) := (spec_AllLoops.f k a0).bind fun bt172 => ((impl_AllLoops.f a0).bind fun bt176 => ((laws_eqStringS.f k bt176.1 bt172.1).bind fun t180 => (if t180 = true then (laws_FnExactAllLoops.j0 k a0 bt172.1 bt172.2 bt176.1 (bt176.2 != bt172.2)) else (laws_FnExactAllLoops.j0 k a0 bt172.1 bt172.2 bt176.1 true))))
theorem laws_FnExactAllLoops.mono_l : ∀ k, (∀ y0 y1 y2 y3 y4, LeO (laws_FnExactAllLoops.j0 k y0 y1 y2 y3 y4) (laws_FnExactAllLoops.j0 (k + 1) y0 y1 y2 y3 y4)) ∧ (∀ y0 y1 y2, LeO (laws_FnExactAllLoops.j1 k y0 y1 y2) (laws_FnExactAllLoops.j1 (k + 1) y0 y1 y2))
  | 0 => ⟨fun _ _ _ _ _ r h => by simp [laws_FnExactAllLoops.j0] at h, fun _ _ _ r h => by simp [laws_FnExactAllLoops.j1] at h⟩
  | k + 1 => by
    obtain ⟨ih0, ih1⟩ := laws_FnExactAllLoops.mono_l k
    refine ⟨?_, ?_⟩
    · intro y0 y1 y2 y3 y4
      unfold laws_FnExactAllLoops.j0
      repeat' first
      | (with_reducible exact ih0 _ _ _ _ _)
      | (with_reducible exact ih1 _ _ _)
      | (with_reducible exact laws_eqStringS.mono _ _ _)
      | (with_reducible exact laws_heldStringS.mono _ _ _)
      | (with_reducible exact laws_markStringS.mono _ _ _)
      | (with_reducible exact spec_AllLoops.mono _ _)
      | (with_reducible exact LeO.refl _)
      | (with_reducible exact LeO.none _)
      | (with_reducible refine LeO.ite ?_ ?_)
      | (with_reducible refine LeO.bind ?_ (fun _ => ?_))
      | exact ih0 _ _ _ _ _
      | exact ih1 _ _ _
      | exact laws_eqStringS.mono _ _ _
      | exact laws_heldStringS.mono _ _ _
      | exact laws_markStringS.mono _ _ _
      | exact spec_AllLoops.mono _ _
      | exact LeO.none _
      | refine LeO.ite ?_ ?_
      | refine LeO.bind ?_ (fun _ => ?_)
    · intro y0 y1 y2
      unfold laws_FnExactAllLoops.j1
      repeat' first
      | (with_reducible exact ih0 _ _ _ _ _)
      | (with_reducible exact ih1 _ _ _)
      | (with_reducible exact laws_eqStringS.mono _ _ _)
      | (with_reducible exact laws_heldStringS.mono _ _ _)
      | (with_reducible exact laws_markStringS.mono _ _ _)
      | (with_reducible exact spec_AllLoops.mono _ _)
      | (with_reducible exact LeO.refl _)
      | (with_reducible exact LeO.none _)
      | (with_reducible refine LeO.ite ?_ ?_)
      | (with_reducible refine LeO.bind ?_ (fun _ => ?_))
      | exact ih0 _ _ _ _ _
      | exact ih1 _ _ _
      | exact laws_eqStringS.mono _ _ _
      | exact laws_heldStringS.mono _ _ _
      | exact laws_markStringS.mono _ _ _
      | exact spec_AllLoops.mono _ _
      | exact LeO.none _
      | refine LeO.ite ?_ ?_
      | refine LeO.bind ?_ (fun _ => ?_)
theorem laws_FnExactAllLoops.mono : ∀ a0 k, LeO (laws_FnExactAllLoops.f k a0) (laws_FnExactAllLoops.f (k + 1) a0) := by
  intro a0 k
  obtain ⟨ih0, ih1⟩ := laws_FnExactAllLoops.mono_l k
  unfold laws_FnExactAllLoops.f
  repeat' first
      | (with_reducible exact ih0 _ _ _ _ _)
      | (with_reducible exact ih1 _ _ _)
      | (with_reducible exact laws_eqStringS.mono _ _ _)
      | (with_reducible exact laws_heldStringS.mono _ _ _)
      | (with_reducible exact laws_markStringS.mono _ _ _)
      | (with_reducible exact spec_AllLoops.mono _ _)
      | (with_reducible exact LeO.refl _)
      | (with_reducible exact LeO.none _)
      | (with_reducible refine LeO.ite ?_ ?_)
      | (with_reducible refine LeO.bind ?_ (fun _ => ?_))
      | exact ih0 _ _ _ _ _
      | exact ih1 _ _ _
      | exact laws_eqStringS.mono _ _ _
      | exact laws_heldStringS.mono _ _ _
      | exact laws_markStringS.mono _ _ _
      | exact spec_AllLoops.mono _ _
      | exact LeO.none _
      | refine LeO.ite ?_ ?_
      | refine LeO.bind ?_ (fun _ => ?_)
set_option maxHeartbeats 8000000 in
set_option maxRecDepth 100000 in
theorem laws_FnExactAllLoops.calls (k : Nat) (a0 : Int) (r : Bool) (w : World) (h : laws_FnExactAllLoops.f k a0 = some r) :
    Calls Try.prog 4 #[.int .i64 a0] w fun e w' => e = .returned (.bool r) ∧ Below w.heap.size w w' := by
  have HB := Aside0.mk (Below.refl w.heap.size w)
  have H : ((spec_AllLoops.f k a0).bind fun bt172 => ((impl_AllLoops.f a0).bind fun bt176 => ((laws_eqStringS.f k bt176.1 bt172.1).bind fun t180 => (if t180 = true then (laws_FnExactAllLoops.j0 k a0 bt172.1 bt172.2 bt176.1 (bt176.2 != bt172.2)) else (laws_FnExactAllLoops.j0 k a0 bt172.1 bt172.2 bt176.1 true))))) = some r := h
  clear h
  replace H := Option.bind_eq_some_iff.mp H
  obtain ⟨⟨t172, t173⟩, A20, H⟩ := H
  replace H : ((impl_AllLoops.f a0).bind fun bt176 => ((laws_eqStringS.f k bt176.1 t172).bind fun t180 => (if t180 = true then (laws_FnExactAllLoops.j0 k a0 t172 t173 bt176.1 (bt176.2 != t173)) else (laws_FnExactAllLoops.j0 k a0 t172 t173 bt176.1 true)))) = some r := H
  have A2 := Aside0.mk A20
  clear A20
  replace H := Option.bind_eq_some_iff.mp H
  obtain ⟨⟨t176, t177⟩, A30, H⟩ := H
  replace H : ((laws_eqStringS.f k t176 t172).bind fun t180 => (if t180 = true then (laws_FnExactAllLoops.j0 k a0 t172 t173 t176 (t177 != t173)) else (laws_FnExactAllLoops.j0 k a0 t172 t173 t176 true))) = some r := H
  have A3 := Aside0.mk A30
  clear A30
  have HC4 := Aside0.mk H
  clear H
  go_enter Try.func4, Try.ntmps4
  go_upto_region 3 with (first | ((with_reducible refine gate_callee (f := 8) rfl ?_); refine goesL_ (some 13) rfl rfl Try.func8 (by kernel_rfl) rfl #[.int .i64 a0] rfl (by (try simp only [List.map_toArray, List.map_cons, List.map_nil]); first | done | rfl | (simp only [List.length_drop, List.length_take]; rfl)) ?_; (with_reducible refine (spec_AllLoops.calls k a0 t172 t173 _ A2.out).mono ?_); rintro e w5 ⟨v174, rfl, ho0, hb⟩; refine ⟨_, rfl, ?_⟩; have n0_ := Aside0.mk (Kd.R_lower ho0 (below_size (by repeat (first | (with_reducible first | exact HB.out | apply below_alloc | apply pw_below_drewN | apply below_drew1) | exact HB.out)))); have n1_ := Aside0.mk (below_step (by repeat (first | (with_reducible first | exact HB.out | apply below_alloc | apply pw_below_drewN | apply below_drew1) | exact HB.out)) hb); clear HB; have HO175 := n0_; have HB := n1_; clear n0_ n1_; (try clear hb); (try clear hb2); (try clear hk); (try clear hi); (try clear ho0)) | ((with_reducible refine gate_callee (f := 9) rfl ?_); refine goesL_ (some 18) rfl rfl Try.func9 (by kernel_rfl) rfl #[.int .i64 a0] rfl (by (try simp only [List.map_toArray, List.map_cons, List.map_nil]); first | done | rfl | (simp only [List.length_drop, List.length_take]; rfl)) ?_; (with_reducible refine (impl_AllLoops.calls a0 t176 t177 _ A3.out).mono ?_); rintro e w6 ⟨v178, rfl, ho0, hb⟩; refine ⟨_, rfl, ?_⟩; have n0_ := Aside0.mk (Kd.R_elder' (by (with_reducible repeat (first | apply Kd.R_alloc | apply Kd.R_drewN | apply Kd.R_drew)); exact HO175.out) (Kd.R_base ho0) hb); have n1_ := Aside0.mk (Kd.R_lower (Kd.R_new' ho0 (Kd.R_lt (by (with_reducible repeat (first | apply Kd.R_alloc | apply Kd.R_drewN | apply Kd.R_drew)); exact HO175.out))) (below_size (by repeat (first | (with_reducible first | exact HB.out | apply below_alloc | apply pw_below_drewN | apply below_drew1) | exact HB.out)))); have n2_ := Aside0.mk (below_step (by repeat (first | (with_reducible first | exact HB.out | apply below_alloc | apply pw_below_drewN | apply below_drew1) | exact HB.out)) hb); clear HO175; clear HB; have HO175 := n0_; have HO179 := n1_; have HB := n2_; clear n0_ n1_ n2_; (try clear hb); (try clear hb2); (try clear hk); (try clear hi); (try clear ho0)))
  (try simp only [Act.put, List.setIfInBounds_toArray, List.set_cons_zero, List.set_cons_succ])
  go_cut [29] (fun v29 wc => ∃ (kq : Nat) (x29_3 : Bool), v29 = .bool x29_3 ∧ Aside0 (laws_FnExactAllLoops.j0 kq a0 t172 t173 t176 x29_3 = some r) ∧ Aside0 (kq ≤ k) ∧ Aside0 (Kd.R Kd.string 9 wc w.heap.size (fun k_ => some k_ ≠ (v178 : Value).ownBlock) v174 t172) ∧ Aside0 (Kd.R Kd.string 9 wc w.heap.size (fun k_ => some k_ ≠ (v174 : Value).ownBlock) v178 t176) ∧ Aside0 (Below w.heap.size w wc))
  case first =>
    have H := HC4.out
    clear HC4
    replace H := Option.bind_eq_some_iff.mp H
    obtain ⟨t180, A70, H⟩ := H
    replace H : (if t180 = true then (laws_FnExactAllLoops.j0 k a0 t172 t173 t176 (t177 != t173)) else (laws_FnExactAllLoops.j0 k a0 t172 t173 t176 true)) = some r := H
    have A7 := Aside0.mk A70
    clear A70
    by_cases c8 : t180 = true
    · subst c8
      have H1 : (laws_FnExactAllLoops.j0 k a0 t172 t173 t176 (t177 != t173)) = some r := by rw [if_pos rfl] at H; exact H
      clear H
      have H := H1
      clear H1
      have H' := Aside0.mk H
      clear H
      obtain ⟨Ao9, co9, eo9⟩ := Kd.R_slice HO179.out
      subst eo9
      obtain ⟨Ao10, co10, eo10⟩ := Kd.R_slice HO175.out
      subst eo10
      go_wp2_with (first | ((with_reducible refine gate_callee (f := 10) rfl ?_); refine goesL_ (some 23) rfl rfl Try.func10 (by kernel_rfl) rfl #[.slice Ao9 t176.length co9, .slice Ao10 t172.length co10] rfl (by (try simp only [List.map_toArray, List.map_cons, List.map_nil]); first | done | rfl | (simp only [List.length_drop, List.length_take]; rfl)) ?_; (with_reducible refine (laws_eqStringS.calls k _ _ t176 _ _ t172 true _ ?side1 ?side2 ?side3 ?side4 A7.out).mono ?_); (case side1 => repeat (first | exact (Kd.R_reads' HO179.out).2.2 | (with_reducible refine Kd.C_alloc ?_ _) | (with_reducible refine Kd.C_drewN ?_ _) | (with_reducible refine Kd.C_drew ?_))); (case side2 => exact (Kd.R_reads' HO179.out).2.1); (case side3 => repeat (first | exact (Kd.R_reads' HO175.out).2.2 | (with_reducible refine Kd.C_alloc ?_ _) | (with_reducible refine Kd.C_drewN ?_ _) | (with_reducible refine Kd.C_drew ?_))); (case side4 => exact (Kd.R_reads' HO175.out).2.1); rintro e w' ⟨rfl, ⟨nd, rfl⟩⟩; refine ⟨_, rfl, ?_⟩))
      go_meet
      case rel => exact ⟨_, ((t177 != t173)), (by first | rfl | (simp; done) | (simp [*]; done)), H', ⟨by first | omega | exact Nat.le_refl _⟩, ⟨by (with_reducible repeat (first | apply Kd.R_alloc | apply Kd.R_drewN | apply Kd.R_drew)); exact Kd.R_mono HO175.out (fun _ hk => hk.2)⟩, ⟨by (with_reducible repeat (first | apply Kd.R_alloc | apply Kd.R_drewN | apply Kd.R_drew)); exact Kd.R_mono HO179.out (fun _ hk => hk.2)⟩, ⟨by repeat (first | (with_reducible first | exact HB.out | apply below_alloc | apply pw_below_drewN | apply below_drew1) | exact HB.out)⟩⟩
    · replace c8 := Bool.eq_false_iff.mpr c8
      subst c8
      have H1 : (laws_FnExactAllLoops.j0 k a0 t172 t173 t176 true) = some r := by rw [if_neg (show ¬ (false = true) by decide)] at H; exact H
      clear H
      have H := H1
      clear H1
      have H' := Aside0.mk H
      clear H
      obtain ⟨Ao11, co11, eo11⟩ := Kd.R_slice HO179.out
      subst eo11
      obtain ⟨Ao12, co12, eo12⟩ := Kd.R_slice HO175.out
      subst eo12
      go_wp2_with (first | ((with_reducible refine gate_callee (f := 10) rfl ?_); refine goesL_ (some 23) rfl rfl Try.func10 (by kernel_rfl) rfl #[.slice Ao11 t176.length co11, .slice Ao12 t172.length co12] rfl (by (try simp only [List.map_toArray, List.map_cons, List.map_nil]); first | done | rfl | (simp only [List.length_drop, List.length_take]; rfl)) ?_; (with_reducible refine (laws_eqStringS.calls k _ _ t176 _ _ t172 false _ ?side1 ?side2 ?side3 ?side4 A7.out).mono ?_); (case side1 => repeat (first | exact (Kd.R_reads' HO179.out).2.2 | (with_reducible refine Kd.C_alloc ?_ _) | (with_reducible refine Kd.C_drewN ?_ _) | (with_reducible refine Kd.C_drew ?_))); (case side2 => exact (Kd.R_reads' HO179.out).2.1); (case side3 => repeat (first | exact (Kd.R_reads' HO175.out).2.2 | (with_reducible refine Kd.C_alloc ?_ _) | (with_reducible refine Kd.C_drewN ?_ _) | (with_reducible refine Kd.C_drew ?_))); (case side4 => exact (Kd.R_reads' HO175.out).2.1); rintro e w' ⟨rfl, ⟨nd, rfl⟩⟩; refine ⟨_, rfl, ?_⟩))
      go_meet
      case rel => exact ⟨_, (true), (by first | rfl | (simp; done) | (simp [*]; done)), H', ⟨by first | omega | exact Nat.le_refl _⟩, ⟨by (with_reducible repeat (first | apply Kd.R_alloc | apply Kd.R_drewN | apply Kd.R_drew)); exact Kd.R_mono HO175.out (fun _ hk => hk.2)⟩, ⟨by (with_reducible repeat (first | apply Kd.R_alloc | apply Kd.R_drewN | apply Kd.R_drew)); exact Kd.R_mono HO179.out (fun _ hk => hk.2)⟩, ⟨by repeat (first | (with_reducible first | exact HB.out | apply below_alloc | apply pw_below_drewN | apply below_drew1) | exact HB.out)⟩⟩
  case rest =>
    clear HC4
    try clear c1
    try clear p2
    try clear c4
    try clear c8
    try clear c9
    try clear c10
    obtain ⟨kq, x29_3, rfl, HA, HJ3, HO_3, HO_5, HB⟩ := hcut
    cases kq with
    | zero => exact absurd HA.out (by simp [laws_FnExactAllLoops.j0])
    | succ kj3 =>
      have H := HA.out
      clear HA
      simp only [laws_FnExactAllLoops.j0] at H
      by_cases c13 : x29_3 = true
      · subst c13
        have H1 : (some false) = some r := by rw [if_pos rfl] at H; exact H
        clear H
        have H := H1
        clear H1
        obtain rfl := Option.some.inj H
        go_wp2
        go_ret
        exact ⟨by first | rfl | (simp [errW_none, errW_some] <;> rfl) | (simp [*, errW_none, errW_some] <;> rfl), by repeat (first | (with_reducible first | exact HB.out | apply below_alloc | apply pw_below_drewN | apply below_drew1) | exact HB.out)⟩
      · replace c13 := Bool.eq_false_iff.mpr c13
        subst c13
        have H1 : ((laws_markStringS.f kj3 t176 101).bind fun bt181 => ((laws_heldStringS.f kj3 bt181.2 101).bind fun t183 => (if t183 < 0 then (some false) else (if t183 = bt181.1 then ((impl_AllLoops.f a0).bind fun bt184 => ((laws_eqStringS.f kj3 bt184.1 t172).bind fun t188 => (if t188 = true then (laws_FnExactAllLoops.j1 kj3 bt181.2 bt181.1 (bt184.2 != t173)) else (laws_FnExactAllLoops.j1 kj3 bt181.2 bt181.1 true)))) else (some false))))) = some r := by rw [if_neg (show ¬ (false = true) by decide)] at H; exact H
        clear H
        have H := H1
        clear H1
        replace H := Option.bind_eq_some_iff.mp H
        obtain ⟨⟨t181, t182⟩, A140, H⟩ := H
        replace H : ((laws_heldStringS.f kj3 t182 101).bind fun t183 => (if t183 < 0 then (some false) else (if t183 = t181 then ((impl_AllLoops.f a0).bind fun bt184 => ((laws_eqStringS.f kj3 bt184.1 t172).bind fun t188 => (if t188 = true then (laws_FnExactAllLoops.j1 kj3 t182 t181 (bt184.2 != t173)) else (laws_FnExactAllLoops.j1 kj3 t182 t181 true)))) else (some false)))) = some r := H
        have A14 := Aside0.mk A140
        clear A140
        replace H := Option.bind_eq_some_iff.mp H
        obtain ⟨t183, A150, H⟩ := H
        replace H : (if t183 < 0 then (some false) else (if t183 = t181 then ((impl_AllLoops.f a0).bind fun bt184 => ((laws_eqStringS.f kj3 bt184.1 t172).bind fun t188 => (if t188 = true then (laws_FnExactAllLoops.j1 kj3 t182 t181 (bt184.2 != t173)) else (laws_FnExactAllLoops.j1 kj3 t182 t181 true)))) else (some false))) = some r := H
        have A15 := Aside0.mk A150
        clear A150
        by_cases c16 : t183 < 0
        · rw [if_pos c16] at H
          have c16b0 : decide (t183 < 0) = true := decide_eq_true c16
          clear c16
          obtain rfl := Option.some.inj H
          obtain ⟨Ao17, co17, eo17⟩ := Kd.R_slice HO_5.out
          subst eo17
          go_wp2_with (first | ((with_reducible refine gate_callee (f := 11) rfl ?_); refine goesL_ (some 32) rfl rfl Try.func11 (by kernel_rfl) rfl #[.slice Ao17 t176.length co17, .int .i64 101] rfl (by (try simp only [List.map_toArray, List.map_cons, List.map_nil]); first | done | rfl | (simp only [List.length_drop, List.length_take]; rfl)) ?_; (with_reducible refine (laws_markStringS.calls kj3 (fun k_ => some k_ = (.slice Ao17 t176.length co17 : Value).ownBlock) (.slice Ao17 t176.length co17) t176 101 t181 t182 w _ ?side1 ?side2 A14.out).mono ?_); (case side1 => repeat (first | (with_reducible first | exact HB.out | apply below_alloc | apply pw_below_drewN | apply below_drew1) | exact HB.out)); (case side2 => exact Kd.R_tight rfl HO_5.out); rintro e w18 ⟨rfl, hy0, hb, hkp⟩; refine ⟨_, rfl, ?_⟩; have n0_ := Aside0.mk (Kd.R_mono (ok' := fun k_ => some k_ ≠ (.slice Ao17 t176.length co17 : Value).ownBlock) (Kd.R_keptB (HO_3.out) hkp (fun k_ hk_ hs_ => (hk_) hs_)) (fun k_ hk_ => hk_.1)); have n1_ := Aside0.mk (Kd.R_reok rfl hy0 (fun k_ e_ => HO_5.out.1 k_ e_)); have n2_ := Aside0.mk (hb); clear HO_3; clear HO_5; clear HB; have HO_3 := n0_; have HO_5 := n1_; have HB := n2_; clear n0_ n1_ n2_; (try clear hb); (try clear hkp); (try clear hy0)) | ((with_reducible refine gate_callee (f := 12) rfl ?_); refine goesL_ (some 35) rfl rfl Try.func12 (by kernel_rfl) rfl #[.slice Ao17 t182.length co17, .int .i64 101] rfl (by (try simp only [List.map_toArray, List.map_cons, List.map_nil]); first | done | (rw [show t182.length = t176.length from (Kd.R_reads' HO_5.out).1.symm] <;> rfl) | rfl | (simp only [List.length_drop, List.length_take]; rfl)) ?_; (with_reducible refine (laws_heldStringS.calls kj3 _ _ t182 101 t183 _ ?side1 ?side2 A15.out).mono ?_); (case side1 => repeat (first | exact (Kd.R_reads' HO_5.out).2.2 | (with_reducible refine Kd.C_alloc ?_ _) | (with_reducible refine Kd.C_drewN ?_ _) | (with_reducible refine Kd.C_drew ?_))); (case side2 => rw [show t182.length = t176.length from (Kd.R_reads' HO_5.out).1.symm]; exact (Kd.R_reads' HO_5.out).2.1); rintro e w19 ⟨rfl, hb⟩; refine ⟨_, rfl, ?_⟩; have n0_ := Aside0.mk (Kd.R_below (by (with_reducible repeat (first | apply Kd.R_alloc | apply Kd.R_drewN | apply Kd.R_drew)); exact HO_3.out) hb); have n1_ := Aside0.mk (Kd.R_below (by (with_reducible repeat (first | apply Kd.R_alloc | apply Kd.R_drewN | apply Kd.R_drew)); exact HO_5.out) hb); have n2_ := Aside0.mk (below_step (by repeat (first | (with_reducible first | exact HB.out | apply below_alloc | apply pw_below_drewN | apply below_drew1) | exact HB.out)) hb); clear HO_3; clear HO_5; clear HB; have HO_3 := n0_; have HO_5 := n1_; have HB := n2_; clear n0_ n1_ n2_; (try clear hb); (try clear hb2); (try clear hk); (try clear hi)))
          go_ret
          exact ⟨by first | rfl | (simp [errW_none, errW_some] <;> rfl) | (simp [*, errW_none, errW_some] <;> rfl), by repeat (first | (with_reducible first | exact HB.out | apply below_alloc | apply pw_below_drewN | apply below_drew1) | exact HB.out)⟩
        · rw [if_neg c16] at H
          have c16b0 : decide (t183 < 0) = false := decide_eq_false c16
          clear c16
          by_cases c20 : t183 = t181
          · rw [if_pos c20] at H
            have c20b0 : (t183 == t181) = true := beq_iff_eq.mpr c20
            have c20b1 : (t183 != t181) = false := bne_eq_false_iff_eq.mpr c20
            clear c20
            replace H := Option.bind_eq_some_iff.mp H
            obtain ⟨⟨t184, t185⟩, A210, H⟩ := H
            replace H : ((laws_eqStringS.f kj3 t184 t172).bind fun t188 => (if t188 = true then (laws_FnExactAllLoops.j1 kj3 t182 t181 (t185 != t173)) else (laws_FnExactAllLoops.j1 kj3 t182 t181 true))) = some r := H
            have A21 := Aside0.mk A210
            clear A210
            have HC22 := Aside0.mk H
            clear H
            obtain ⟨Ao23, co23, eo23⟩ := Kd.R_slice HO_5.out
            subst eo23
            go_upto_region 14 with (first | ((with_reducible refine gate_callee (f := 11) rfl ?_); refine goesL_ (some 32) rfl rfl Try.func11 (by kernel_rfl) rfl #[.slice Ao23 t176.length co23, .int .i64 101] rfl (by (try simp only [List.map_toArray, List.map_cons, List.map_nil]); first | done | rfl | (simp only [List.length_drop, List.length_take]; rfl)) ?_; (with_reducible refine (laws_markStringS.calls kj3 (fun k_ => some k_ = (.slice Ao23 t176.length co23 : Value).ownBlock) (.slice Ao23 t176.length co23) t176 101 t181 t182 w _ ?side1 ?side2 A14.out).mono ?_); (case side1 => repeat (first | (with_reducible first | exact HB.out | apply below_alloc | apply pw_below_drewN | apply below_drew1) | exact HB.out)); (case side2 => exact Kd.R_tight rfl HO_5.out); rintro e w24 ⟨rfl, hy0, hb, hkp⟩; refine ⟨_, rfl, ?_⟩; have n0_ := Aside0.mk (Kd.R_mono (ok' := fun k_ => some k_ ≠ (.slice Ao23 t176.length co23 : Value).ownBlock) (Kd.R_keptB (HO_3.out) hkp (fun k_ hk_ hs_ => (hk_) hs_)) (fun k_ hk_ => hk_.1)); have n1_ := Aside0.mk (Kd.R_reok rfl hy0 (fun k_ e_ => HO_5.out.1 k_ e_)); have n2_ := Aside0.mk (hb); clear HO_3; clear HO_5; clear HB; have HO_3 := n0_; have HO_5 := n1_; have HB := n2_; clear n0_ n1_ n2_; (try clear hb); (try clear hkp); (try clear hy0)) | ((with_reducible refine gate_callee (f := 12) rfl ?_); refine goesL_ (some 35) rfl rfl Try.func12 (by kernel_rfl) rfl #[.slice Ao23 t182.length co23, .int .i64 101] rfl (by (try simp only [List.map_toArray, List.map_cons, List.map_nil]); first | done | (rw [show t182.length = t176.length from (Kd.R_reads' HO_5.out).1.symm] <;> rfl) | rfl | (simp only [List.length_drop, List.length_take]; rfl)) ?_; (with_reducible refine (laws_heldStringS.calls kj3 _ _ t182 101 t183 _ ?side1 ?side2 A15.out).mono ?_); (case side1 => repeat (first | exact (Kd.R_reads' HO_5.out).2.2 | (with_reducible refine Kd.C_alloc ?_ _) | (with_reducible refine Kd.C_drewN ?_ _) | (with_reducible refine Kd.C_drew ?_))); (case side2 => rw [show t182.length = t176.length from (Kd.R_reads' HO_5.out).1.symm]; exact (Kd.R_reads' HO_5.out).2.1); rintro e w25 ⟨rfl, hb⟩; refine ⟨_, rfl, ?_⟩; have n0_ := Aside0.mk (Kd.R_below (by (with_reducible repeat (first | apply Kd.R_alloc | apply Kd.R_drewN | apply Kd.R_drew)); exact HO_3.out) hb); have n1_ := Aside0.mk (Kd.R_below (by (with_reducible repeat (first | apply Kd.R_alloc | apply Kd.R_drewN | apply Kd.R_drew)); exact HO_5.out) hb); have n2_ := Aside0.mk (below_step (by repeat (first | (with_reducible first | exact HB.out | apply below_alloc | apply pw_below_drewN | apply below_drew1) | exact HB.out)) hb); clear HO_3; clear HO_5; clear HB; have HO_3 := n0_; have HO_5 := n1_; have HB := n2_; clear n0_ n1_ n2_; (try clear hb); (try clear hb2); (try clear hk); (try clear hi)) | ((with_reducible refine gate_callee (f := 9) rfl ?_); refine goesL_ (some 43) rfl rfl Try.func9 (by kernel_rfl) rfl #[.int .i64 a0] rfl (by (try simp only [List.map_toArray, List.map_cons, List.map_nil]); first | done | rfl | (simp only [List.length_drop, List.length_take]; rfl)) ?_; (with_reducible refine (impl_AllLoops.calls a0 t184 t185 _ A21.out).mono ?_); rintro e w26 ⟨v186, rfl, ho0, hb⟩; refine ⟨_, rfl, ?_⟩; have n0_ := Aside0.mk (Kd.R_elder' (by (with_reducible repeat (first | apply Kd.R_alloc | apply Kd.R_drewN | apply Kd.R_drew)); exact HO_3.out) (Kd.R_base ho0) hb); have n1_ := Aside0.mk (Kd.R_elder' (by (with_reducible repeat (first | apply Kd.R_alloc | apply Kd.R_drewN | apply Kd.R_drew)); exact HO_5.out) (Kd.R_base ho0) hb); have n2_ := Aside0.mk (Kd.R_lower (Kd.R_new' (Kd.R_new' ho0 (Kd.R_lt (by (with_reducible repeat (first | apply Kd.R_alloc | apply Kd.R_drewN | apply Kd.R_drew)); exact HO_3.out))) (Kd.R_lt (by (with_reducible repeat (first | apply Kd.R_alloc | apply Kd.R_drewN | apply Kd.R_drew)); exact HO_5.out))) (below_size (by repeat (first | (with_reducible first | exact HB.out | apply below_alloc | apply pw_below_drewN | apply below_drew1) | exact HB.out)))); have n3_ := Aside0.mk (below_step (by repeat (first | (with_reducible first | exact HB.out | apply below_alloc | apply pw_below_drewN | apply below_drew1) | exact HB.out)) hb); clear HO_3; clear HO_5; clear HB; have HO_3 := n0_; have HO_5 := n1_; have HO187 := n2_; have HB := n3_; clear n0_ n1_ n2_ n3_; (try clear hb); (try clear hb2); (try clear hk); (try clear hi); (try clear ho0)))
            (try simp only [Act.put, List.setIfInBounds_toArray, List.set_cons_zero, List.set_cons_succ])
            go_cut [54] (fun v54 wc => ∃ (kq : Nat) (x54_21 : Bool), v54 = .bool x54_21 ∧ Aside0 (laws_FnExactAllLoops.j1 kq t182 t181 x54_21 = some r) ∧ Aside0 (kq ≤ kj3) ∧ Aside0 (Kd.R Kd.string 9 wc w.heap.size (fun _ => True) (.slice Ao23 t176.length co23) t182) ∧ Aside0 (Below w.heap.size w wc))
            case first =>
              have H := HC22.out
              clear HC22
              replace H := Option.bind_eq_some_iff.mp H
              obtain ⟨t188, A270, H⟩ := H
              replace H : (if t188 = true then (laws_FnExactAllLoops.j1 kj3 t182 t181 (t185 != t173)) else (laws_FnExactAllLoops.j1 kj3 t182 t181 true)) = some r := H
              have A27 := Aside0.mk A270
              clear A270
              by_cases c28 : t188 = true
              · subst c28
                have H1 : (laws_FnExactAllLoops.j1 kj3 t182 t181 (t185 != t173)) = some r := by rw [if_pos rfl] at H; exact H
                clear H
                have H := H1
                clear H1
                have H' := Aside0.mk H
                clear H
                obtain ⟨Ao29, co29, eo29⟩ := Kd.R_slice HO187.out
                subst eo29
                obtain ⟨Ao30, co30, eo30⟩ := Kd.R_slice HO_3.out
                subst eo30
                go_wp2_with (first | ((with_reducible refine gate_callee (f := 10) rfl ?_); refine goesL_ (some 48) rfl rfl Try.func10 (by kernel_rfl) rfl #[.slice Ao29 t184.length co29, .slice Ao30 t172.length co30] rfl (by (try simp only [List.map_toArray, List.map_cons, List.map_nil]); first | done | rfl | (simp only [List.length_drop, List.length_take]; rfl)) ?_; (with_reducible refine (laws_eqStringS.calls kj3 _ _ t184 _ _ t172 true _ ?side1 ?side2 ?side3 ?side4 A27.out).mono ?_); (case side1 => repeat (first | exact (Kd.R_reads' HO187.out).2.2 | (with_reducible refine Kd.C_alloc ?_ _) | (with_reducible refine Kd.C_drewN ?_ _) | (with_reducible refine Kd.C_drew ?_))); (case side2 => exact (Kd.R_reads' HO187.out).2.1); (case side3 => repeat (first | exact (Kd.R_reads' HO_3.out).2.2 | (with_reducible refine Kd.C_alloc ?_ _) | (with_reducible refine Kd.C_drewN ?_ _) | (with_reducible refine Kd.C_drew ?_))); (case side4 => exact (Kd.R_reads' HO_3.out).2.1); rintro e w' ⟨rfl, ⟨nd, rfl⟩⟩; refine ⟨_, rfl, ?_⟩))
                go_meet
                case rel => exact ⟨_, ((t185 != t173)), (by first | rfl | (simp; done) | (simp [*]; done)), H', ⟨by have := HJ3.out; first | omega | exact Nat.le_refl _⟩, ⟨by (with_reducible repeat (first | apply Kd.R_alloc | apply Kd.R_drewN | apply Kd.R_drew)); exact Kd.R_mono HO_5.out (fun _ hk => trivial)⟩, ⟨by repeat (first | (with_reducible first | exact HB.out | apply below_alloc | apply pw_below_drewN | apply below_drew1) | exact HB.out)⟩⟩
              · replace c28 := Bool.eq_false_iff.mpr c28
                subst c28
                have H1 : (laws_FnExactAllLoops.j1 kj3 t182 t181 true) = some r := by rw [if_neg (show ¬ (false = true) by decide)] at H; exact H
                clear H
                have H := H1
                clear H1
                have H' := Aside0.mk H
                clear H
                obtain ⟨Ao31, co31, eo31⟩ := Kd.R_slice HO187.out
                subst eo31
                obtain ⟨Ao32, co32, eo32⟩ := Kd.R_slice HO_3.out
                subst eo32
                go_wp2_with (first | ((with_reducible refine gate_callee (f := 10) rfl ?_); refine goesL_ (some 48) rfl rfl Try.func10 (by kernel_rfl) rfl #[.slice Ao31 t184.length co31, .slice Ao32 t172.length co32] rfl (by (try simp only [List.map_toArray, List.map_cons, List.map_nil]); first | done | rfl | (simp only [List.length_drop, List.length_take]; rfl)) ?_; (with_reducible refine (laws_eqStringS.calls kj3 _ _ t184 _ _ t172 false _ ?side1 ?side2 ?side3 ?side4 A27.out).mono ?_); (case side1 => repeat (first | exact (Kd.R_reads' HO187.out).2.2 | (with_reducible refine Kd.C_alloc ?_ _) | (with_reducible refine Kd.C_drewN ?_ _) | (with_reducible refine Kd.C_drew ?_))); (case side2 => exact (Kd.R_reads' HO187.out).2.1); (case side3 => repeat (first | exact (Kd.R_reads' HO_3.out).2.2 | (with_reducible refine Kd.C_alloc ?_ _) | (with_reducible refine Kd.C_drewN ?_ _) | (with_reducible refine Kd.C_drew ?_))); (case side4 => exact (Kd.R_reads' HO_3.out).2.1); rintro e w' ⟨rfl, ⟨nd, rfl⟩⟩; refine ⟨_, rfl, ?_⟩))
                go_meet
                case rel => exact ⟨_, (true), (by first | rfl | (simp; done) | (simp [*]; done)), H', ⟨by have := HJ3.out; first | omega | exact Nat.le_refl _⟩, ⟨by (with_reducible repeat (first | apply Kd.R_alloc | apply Kd.R_drewN | apply Kd.R_drew)); exact Kd.R_mono HO_5.out (fun _ hk => trivial)⟩, ⟨by repeat (first | (with_reducible first | exact HB.out | apply below_alloc | apply pw_below_drewN | apply below_drew1) | exact HB.out)⟩⟩
            case rest =>
              clear HC22
              try clear c1
              try clear c2
              try clear p2
              try clear c4
              try clear c8
              try clear c9
              try clear c10
              try clear c11
              try clear c12
              try clear c13
              try clear c16
              try clear c16b0
              try clear c20
              try clear c20b0
              try clear c20b1
              try clear c28
              try clear p2
              obtain ⟨kq, x54_21, rfl, HA, HJ21, HO_5, HB⟩ := hcut
              have hl5_21 := (Kd.R_reads' HO_5.out).1
              rw [hl5_21] at HO_5
              (try simp only [hl5_21])
              cases kq with
              | zero => exact absurd HA.out (by simp [laws_FnExactAllLoops.j1])
              | succ kj21 =>
                have H := HA.out
                clear HA
                simp only [laws_FnExactAllLoops.j1] at H
                by_cases c33 : x54_21 = true
                · subst c33
                  have H1 : (some false) = some r := by rw [if_pos rfl] at H; exact H
                  clear H
                  have H := H1
                  clear H1
                  obtain rfl := Option.some.inj H
                  go_wp2
                  go_ret
                  exact ⟨by first | rfl | (simp [errW_none, errW_some] <;> rfl) | (simp [*, errW_none, errW_some] <;> rfl), by repeat (first | (with_reducible first | exact HB.out | apply below_alloc | apply pw_below_drewN | apply below_drew1) | exact HB.out)⟩
                · replace c33 := Bool.eq_false_iff.mpr c33
                  subst c33
                  have H1 : ((laws_heldStringS.f kj21 t182 101).bind fun t189 => (if t189 < 0 then (some false) else (if t189 = t181 then (some true) else (some false)))) = some r := by rw [if_neg (show ¬ (false = true) by decide)] at H; exact H
                  clear H
                  have H := H1
                  clear H1
                  replace H := Option.bind_eq_some_iff.mp H
                  obtain ⟨t189, A340, H⟩ := H
                  replace H : (if t189 < 0 then (some false) else (if t189 = t181 then (some true) else (some false))) = some r := H
                  have A34 := Aside0.mk A340
                  clear A340
                  by_cases c35 : t189 < 0
                  · rw [if_pos c35] at H
                    have c35b0 : decide (t189 < 0) = true := decide_eq_true c35
                    clear c35
                    obtain rfl := Option.some.inj H
                    go_wp2_with (first | ((with_reducible refine gate_callee (f := 12) rfl ?_); refine goesL_ (some 57) rfl rfl Try.func12 (by kernel_rfl) rfl #[.slice Ao23 t182.length co23, .int .i64 101] rfl (by (try simp only [List.map_toArray, List.map_cons, List.map_nil]); first | done | rfl | (simp only [List.length_drop, List.length_take]; rfl)) ?_; (with_reducible refine (laws_heldStringS.calls kj21 _ _ t182 101 t189 _ ?side1 ?side2 A34.out).mono ?_); (case side1 => repeat (first | exact (Kd.R_reads' HO_5.out).2.2 | (with_reducible refine Kd.C_alloc ?_ _) | (with_reducible refine Kd.C_drewN ?_ _) | (with_reducible refine Kd.C_drew ?_))); (case side2 => exact (Kd.R_reads' HO_5.out).2.1); rintro e w36 ⟨rfl, hb⟩; refine ⟨_, rfl, ?_⟩; have n0_ := Aside0.mk (Kd.R_below (by (with_reducible repeat (first | apply Kd.R_alloc | apply Kd.R_drewN | apply Kd.R_drew)); exact HO_5.out) hb); have n1_ := Aside0.mk (below_step (by repeat (first | (with_reducible first | exact HB.out | apply below_alloc | apply pw_below_drewN | apply below_drew1) | exact HB.out)) hb); clear HO_5; clear HB; have HO_5 := n0_; have HB := n1_; clear n0_ n1_; (try clear hb); (try clear hb2); (try clear hk); (try clear hi)))
                    go_ret
                    exact ⟨by first | rfl | (simp [errW_none, errW_some] <;> rfl) | (simp [*, errW_none, errW_some] <;> rfl), by repeat (first | (with_reducible first | exact HB.out | apply below_alloc | apply pw_below_drewN | apply below_drew1) | exact HB.out)⟩
                  · rw [if_neg c35] at H
                    have c35b0 : decide (t189 < 0) = false := decide_eq_false c35
                    clear c35
                    by_cases c37 : t189 = t181
                    · rw [if_pos c37] at H
                      have c37b0 : (t189 == t181) = true := beq_iff_eq.mpr c37
                      have c37b1 : (t189 != t181) = false := bne_eq_false_iff_eq.mpr c37
                      clear c37
                      obtain rfl := Option.some.inj H
                      go_wp2_with (first | ((with_reducible refine gate_callee (f := 12) rfl ?_); refine goesL_ (some 57) rfl rfl Try.func12 (by kernel_rfl) rfl #[.slice Ao23 t182.length co23, .int .i64 101] rfl (by (try simp only [List.map_toArray, List.map_cons, List.map_nil]); first | done | rfl | (simp only [List.length_drop, List.length_take]; rfl)) ?_; (with_reducible refine (laws_heldStringS.calls kj21 _ _ t182 101 t189 _ ?side1 ?side2 A34.out).mono ?_); (case side1 => repeat (first | exact (Kd.R_reads' HO_5.out).2.2 | (with_reducible refine Kd.C_alloc ?_ _) | (with_reducible refine Kd.C_drewN ?_ _) | (with_reducible refine Kd.C_drew ?_))); (case side2 => exact (Kd.R_reads' HO_5.out).2.1); rintro e w38 ⟨rfl, hb⟩; refine ⟨_, rfl, ?_⟩; have n0_ := Aside0.mk (Kd.R_below (by (with_reducible repeat (first | apply Kd.R_alloc | apply Kd.R_drewN | apply Kd.R_drew)); exact HO_5.out) hb); have n1_ := Aside0.mk (below_step (by repeat (first | (with_reducible first | exact HB.out | apply below_alloc | apply pw_below_drewN | apply below_drew1) | exact HB.out)) hb); clear HO_5; clear HB; have HO_5 := n0_; have HB := n1_; clear n0_ n1_; (try clear hb); (try clear hb2); (try clear hk); (try clear hi)))
                      go_ret
                      exact ⟨by first | rfl | (simp [errW_none, errW_some] <;> rfl) | (simp [*, errW_none, errW_some] <;> rfl), by repeat (first | (with_reducible first | exact HB.out | apply below_alloc | apply pw_below_drewN | apply below_drew1) | exact HB.out)⟩
                    · rw [if_neg c37] at H
                      have c37b0 : (t189 == t181) = false := beq_eq_false_iff_ne.mpr c37
                      have c37b1 : (t189 != t181) = true := bne_iff_ne.mpr c37
                      obtain rfl := Option.some.inj H
                      go_wp2_with (first | ((with_reducible refine gate_callee (f := 12) rfl ?_); refine goesL_ (some 57) rfl rfl Try.func12 (by kernel_rfl) rfl #[.slice Ao23 t182.length co23, .int .i64 101] rfl (by (try simp only [List.map_toArray, List.map_cons, List.map_nil]); first | done | rfl | (simp only [List.length_drop, List.length_take]; rfl)) ?_; (with_reducible refine (laws_heldStringS.calls kj21 _ _ t182 101 t189 _ ?side1 ?side2 A34.out).mono ?_); (case side1 => repeat (first | exact (Kd.R_reads' HO_5.out).2.2 | (with_reducible refine Kd.C_alloc ?_ _) | (with_reducible refine Kd.C_drewN ?_ _) | (with_reducible refine Kd.C_drew ?_))); (case side2 => exact (Kd.R_reads' HO_5.out).2.1); rintro e w39 ⟨rfl, hb⟩; refine ⟨_, rfl, ?_⟩; have n0_ := Aside0.mk (Kd.R_below (by (with_reducible repeat (first | apply Kd.R_alloc | apply Kd.R_drewN | apply Kd.R_drew)); exact HO_5.out) hb); have n1_ := Aside0.mk (below_step (by repeat (first | (with_reducible first | exact HB.out | apply below_alloc | apply pw_below_drewN | apply below_drew1) | exact HB.out)) hb); clear HO_5; clear HB; have HO_5 := n0_; have HB := n1_; clear n0_ n1_; (try clear hb); (try clear hb2); (try clear hk); (try clear hi)))
                      go_ret
                      exact ⟨by first | rfl | (simp [errW_none, errW_some] <;> rfl) | (simp [*, errW_none, errW_some] <;> rfl), by repeat (first | (with_reducible first | exact HB.out | apply below_alloc | apply pw_below_drewN | apply below_drew1) | exact HB.out)⟩
          · rw [if_neg c20] at H
            have c20b0 : (t183 == t181) = false := beq_eq_false_iff_ne.mpr c20
            have c20b1 : (t183 != t181) = true := bne_iff_ne.mpr c20
            obtain rfl := Option.some.inj H
            obtain ⟨Ao40, co40, eo40⟩ := Kd.R_slice HO_5.out
            subst eo40
            go_wp2_with (first | ((with_reducible refine gate_callee (f := 11) rfl ?_); refine goesL_ (some 32) rfl rfl Try.func11 (by kernel_rfl) rfl #[.slice Ao40 t176.length co40, .int .i64 101] rfl (by (try simp only [List.map_toArray, List.map_cons, List.map_nil]); first | done | rfl | (simp only [List.length_drop, List.length_take]; rfl)) ?_; (with_reducible refine (laws_markStringS.calls kj3 (fun k_ => some k_ = (.slice Ao40 t176.length co40 : Value).ownBlock) (.slice Ao40 t176.length co40) t176 101 t181 t182 w _ ?side1 ?side2 A14.out).mono ?_); (case side1 => repeat (first | (with_reducible first | exact HB.out | apply below_alloc | apply pw_below_drewN | apply below_drew1) | exact HB.out)); (case side2 => exact Kd.R_tight rfl HO_5.out); rintro e w41 ⟨rfl, hy0, hb, hkp⟩; refine ⟨_, rfl, ?_⟩; have n0_ := Aside0.mk (Kd.R_mono (ok' := fun k_ => some k_ ≠ (.slice Ao40 t176.length co40 : Value).ownBlock) (Kd.R_keptB (HO_3.out) hkp (fun k_ hk_ hs_ => (hk_) hs_)) (fun k_ hk_ => hk_.1)); have n1_ := Aside0.mk (Kd.R_reok rfl hy0 (fun k_ e_ => HO_5.out.1 k_ e_)); have n2_ := Aside0.mk (hb); clear HO_3; clear HO_5; clear HB; have HO_3 := n0_; have HO_5 := n1_; have HB := n2_; clear n0_ n1_ n2_; (try clear hb); (try clear hkp); (try clear hy0)) | ((with_reducible refine gate_callee (f := 12) rfl ?_); refine goesL_ (some 35) rfl rfl Try.func12 (by kernel_rfl) rfl #[.slice Ao40 t182.length co40, .int .i64 101] rfl (by (try simp only [List.map_toArray, List.map_cons, List.map_nil]); first | done | (rw [show t182.length = t176.length from (Kd.R_reads' HO_5.out).1.symm] <;> rfl) | rfl | (simp only [List.length_drop, List.length_take]; rfl)) ?_; (with_reducible refine (laws_heldStringS.calls kj3 _ _ t182 101 t183 _ ?side1 ?side2 A15.out).mono ?_); (case side1 => repeat (first | exact (Kd.R_reads' HO_5.out).2.2 | (with_reducible refine Kd.C_alloc ?_ _) | (with_reducible refine Kd.C_drewN ?_ _) | (with_reducible refine Kd.C_drew ?_))); (case side2 => rw [show t182.length = t176.length from (Kd.R_reads' HO_5.out).1.symm]; exact (Kd.R_reads' HO_5.out).2.1); rintro e w42 ⟨rfl, hb⟩; refine ⟨_, rfl, ?_⟩; have n0_ := Aside0.mk (Kd.R_below (by (with_reducible repeat (first | apply Kd.R_alloc | apply Kd.R_drewN | apply Kd.R_drew)); exact HO_3.out) hb); have n1_ := Aside0.mk (Kd.R_below (by (with_reducible repeat (first | apply Kd.R_alloc | apply Kd.R_drewN | apply Kd.R_drew)); exact HO_5.out) hb); have n2_ := Aside0.mk (below_step (by repeat (first | (with_reducible first | exact HB.out | apply below_alloc | apply pw_below_drewN | apply below_drew1) | exact HB.out)) hb); clear HO_3; clear HO_5; clear HB; have HO_3 := n0_; have HO_5 := n1_; have HB := n2_; clear n0_ n1_ n2_; (try clear hb); (try clear hb2); (try clear hk); (try clear hi)))
            go_ret
            exact ⟨by first | rfl | (simp [errW_none, errW_some] <;> rfl) | (simp [*, errW_none, errW_some] <;> rfl), by repeat (first | (with_reducible first | exact HB.out | apply below_alloc | apply pw_below_drewN | apply below_drew1) | exact HB.out)⟩

def laws_FnExactAllLoops.Pure : Prop := ∀ (a0 : Int), (Lit.int .i64 a0).wf = true → ∃ k, laws_FnExactAllLoops.f k a0 = some true
theorem laws_FnExactAllLoops.walk (P : laws_FnExactAllLoops.Pure) (a0 : Int) (w : World) (w0 : (Lit.int .i64 a0).wf = true) :
    Calls Try.prog 4 #[.int .i64 a0] w fun e w' => e = .returned (.bool true) ∧ Below w.heap.size w w' := by
  obtain ⟨k, h⟩ := P a0 w0
  refine (laws_FnExactAllLoops.calls k a0 true w h).mono ?_
  rintro e w' ⟨rfl, hd⟩
  exact ⟨rfl, hd⟩

end Go.Proofs.Ytbnkdfmomcmmaaa.P


namespace Go.Proofs.Ytbnkdfmomcmmaaa.P
open Go.RowKit Go.Proofs.YtbnkdfmomcmmaaaW.PrintWords Go.Proofs.YtbnkdfmomcmmaaaW.PrintLast Go.Proofs.YtbnkdfmomcmmaaaW.PrintMore
attribute [local go_sem] max2_int min2_int max_two min_two max_three min_three max_four min_four   -- for this text's walks alone
set_option linter.unusedVariables false
set_option linter.unusedSimpArgs false

def badS (m : Nat) (seen : List (Int × Int)) (word : List Int) (x y : Int) : Prop :=
  (m : Int) < max x (-x) + max y (-y) ∨ (word ≠ [] ∧ x = 0 ∧ y = 0) ∨ (x, y) ∈ seen ∨ y < 0 ∨ (y = 0 ∧ x < 0)
instance (m : Nat) (seen : List (Int × Int)) (word : List Int) (x y : Int) : Decidable (badS m seen word x y) := by unfold badS; exact inferInstance
def sAll : Nat → List (Int × Int) → List Int → Int → Int → List (List Int)
  | 0, _, word, x, y => if x = 0 ∧ y = 0 then [word] else []
  | m + 1, seen, word, x, y => if badS (m + 1) seen word x y then [] else
    ([110, 101, 115, 119] : List Int).flatMap fun d => if word = [] ∧ d ≠ 101 then [] else sAll m (seen ++ [(x, y)]) (word ++ [d]) (nx4 x d) (ny4 y d)
theorem sAll_eq : ∀ (m : Nat) (seen S : List (Int × Int)) (word : List Int) (x y : Int), word ≠ [] → (∀ c, c ∈ S ↔ c ∈ seen ∨ c = (x, y)) → (0, 0) ∈ seen →
    sAll m seen word x y = if m = 0 then walkW m S word x y else if badS m seen word x y then [] else walkW m S word x y
  | 0, seen, S, word, x, y, _, _, _ => rfl
  | m + 1, seen, S, word, x, y, hw, hS, h0 => by
    rw [if_neg (by omega)]
    unfold sAll
    by_cases hb : badS (m + 1) seen word x y
    · rw [if_pos hb, if_pos hb]
    · rw [if_neg hb, if_neg hb]
      unfold walkW
      have key : ∀ d, (if word = [] ∧ d ≠ 101 then [] else sAll m (seen ++ [(x, y)]) (word ++ [d]) (nx4 x d) (ny4 y d)) = pieceW (walkW m) m S word x y d := by
        intro d
        rw [if_neg (fun h => hw h.1)]
        have hS' : ∀ c, c ∈ (nx4 x d, ny4 y d) :: S ↔ c ∈ seen ++ [(x, y)] ∨ c = (nx4 x d, ny4 y d) := by
          intro c
          simp only [List.mem_cons, List.mem_append, List.not_mem_nil, or_false, hS c]
          constructor
          · rintro (h | h | h)
            · exact .inr h
            · exact .inl (.inl h)
            · exact .inl (.inr h)
          · rintro ((h | h) | h)
            · exact .inr (.inl h)
            · exact .inr (.inr h)
            · exact .inl h
        rw [sAll_eq m (seen ++ [(x, y)]) ((nx4 x d, ny4 y d) :: S) (word ++ [d]) (nx4 x d) (ny4 y d) (by simp) hS' (List.mem_append_left _ h0)]
        unfold pieceW
        generalize nx4 x d = nx
        generalize ny4 y d = ny
        have hm0 : (0, 0) ∈ S := (hS (0, 0)).2 (.inl h0)
        have hmem : (nx, ny) ∈ S ↔ (nx, ny) ∈ seen ++ [(x, y)] := by
          rw [hS (nx, ny)]; simp
        cases m with
        | zero =>
          rw [if_pos rfl]
          by_cases hh : nx = 0 ∧ ny = 0
          · rw [if_pos ⟨hh.1, hh.2, rfl⟩]
            unfold walkW
            rw [if_pos hh]
          · rw [if_neg (fun h => hh ⟨h.1, h.2.1⟩)]
            unfold walkW
            rw [if_neg hh]
            split <;> rfl
        | succ m =>
          rw [if_neg (show ¬ m + 1 = 0 by omega), if_neg (show ¬ (nx = 0 ∧ ny = 0 ∧ m + 1 = 0) from fun h => by omega)]
          have hiff : badS (m + 1) (seen ++ [(x, y)]) (word ++ [d]) nx ny ↔ ((nx, ny) ∈ S ∨ ny < 0 ∨ (ny = 0 ∧ nx < 0) ∨ ((m + 1 : Nat) : Int) + 1 ≤ max nx (-nx) + ny) := by
            unfold badS
            rw [hmem]
            constructor
            · rintro (h | h | h | h | h)
              · by_cases hn : ny < 0
                · exact .inr (.inl hn)
                · exact .inr (.inr (.inr (by omega)))
              · obtain ⟨_, rfl, rfl⟩ := h
                exact .inl (List.mem_append_left _ h0)
              · exact .inl h
              · exact .inr (.inl h)
              · exact .inr (.inr (.inl h))
            · rintro (h | h | h | h)
              · exact .inr (.inr (.inl h))
              · exact .inr (.inr (.inr (.inl h)))
              · exact .inr (.inr (.inr (.inr h)))
              · exact .inl (by omega)
          by_cases hb2 : badS (m + 1) (seen ++ [(x, y)]) (word ++ [d]) nx ny
          · rw [if_pos hb2, if_pos (hiff.1 hb2)]
          · rw [if_neg hb2, if_neg (fun h => hb2 (hiff.2 h))]
      simp only [key]
theorem sAll_top (m : Nat) (hm : 3 ≤ m) : sAll (m + 1) [] [] 0 0 = walkW m [(1, 0), (0, 0)] [101] 1 0 := by
  unfold sAll
  rw [if_neg (by unfold badS; simp; omega)]
  have e := sAll_eq m [(0, 0)] [(1, 0), (0, 0)] [101] 1 0 (by simp) (by intro c; simp [or_comm]) (by simp)
  rw [if_neg (by omega), if_neg (by unfold badS; simp; omega)] at e
  simp [nx4, ny4, e]
theorem strOf_app (a b : List Int) : strOfNums a ++ strOfNums b = strOfNums (a ++ b) := by
  apply ByteArray.ext
  apply Array.ext'
  simp [strOfNums]
theorem sAll_len : ∀ m seen word x y, (sAll m seen word x y).length ≤ 4 ^ m
  | 0, seen, word, x, y => by unfold sAll; split <;> simp
  | m + 1, seen, word, x, y => by
    unfold sAll
    split
    · simp
    · have := flatMap_len (f := fun d => if word = [] ∧ d ≠ 101 then [] else sAll m (seen ++ [(x, y)]) (word ++ [d]) (nx4 x d) (ny4 y d)) (b := 4 ^ m) (fun d => by
        split
        · simp
        · exact sAll_len m _ _ _ _) [110, 101, 115, 119]
      simp only [List.length_cons, List.length_nil] at this
      rw [Nat.pow_succ]
      omega

end Go.Proofs.Ytbnkdfmomcmmaaa.P


namespace Go.Proofs.Ytbnkdfmomcmmaaa.P
open Go.RowKit Go.Proofs.YtbnkdfmomcmmaaaW.PrintWords Go.Proofs.YtbnkdfmomcmmaaaW.PrintLast Go.Proofs.YtbnkdfmomcmmaaaW.PrintMore
attribute [local go_sem] max2_int min2_int max_two min_two max_three min_three max_four min_four   -- for this text's walks alone
set_option linter.unusedVariables false
set_option linter.unusedSimpArgs false

def ofP (c : Int × Int) : S43 := ⟨c.1, c.2⟩
theorem hasP_l0 (l : List (Int × Int)) (x y : Int) : ∀ (d i k : Nat), i + d = l.length → d < k → l.length ≤ 1000 → spec_liHas.l0 k (l.map ofP) ((l.map ofP).length : Int) (i : Int) x y = some (decide ((x, y) ∈ l.drop i))
  | 0, i, k, h, hk, hl => by
    obtain ⟨k, rfl⟩ : ∃ j, k = j + 1 := ⟨k - 1, by omega⟩
    simp only [spec_liHas.l0, List.length_map]
    rw [if_neg (by omega), List.drop_of_length_le (by omega)]
    simp
  | d + 1, i, k, h, hk, hl => by
    obtain ⟨k, rfl⟩ : ∃ j, k = j + 1 := ⟨k - 1, by omega⟩
    have hi : i < l.length := by omega
    have hrd : rd_T43 (l.map ofP) (i : Int) = ofP l[i] := by unfold rd_T43; simp [List.getD_eq_getElem?_getD, List.getElem?_eq_getElem hi]
    have ih := hasP_l0 l x y d (i + 1) k (by omega) (by omega) hl
    simp only [spec_liHas.l0]
    rw [if_pos (by simp; omega), if_pos (by omega), if_pos (by simp; omega), hrd, List.drop_eq_getElem_cons hi]
    by_cases hc : l[i].1 = x ∧ l[i].2 = y
    · rw [if_pos (by simp [ofP, hc.1, hc.2])]
      have : (x, y) = l[i] := by rw [← hc.1, ← hc.2]
      simp only [List.mem_cons, this, true_or, decide_true]
    · rw [if_neg (by simp [ofP]; intro h1 h2; exact hc ⟨h1, h2⟩)]
      rw [show wrap64 ((i : Int) + 1) = ((i + 1 : Nat) : Int) by unfold wrap64; omega, ih]
      have : ¬ (x, y) = l[i] := fun h => hc ⟨by rw [← h], by rw [← h]⟩
      simp only [List.mem_cons, this, false_or]
theorem hasP_f (l : List (Int × Int)) (x y : Int) (k : Nat) (hk : l.length < k) (hl : l.length ≤ 1000) : spec_liHas.f k (l.map ofP) x y = some (decide ((x, y) ∈ l)) := by
  have := hasP_l0 l x y l.length 0 k (by omega) hk hl
  simpa [spec_liHas.f] using this
theorem absP_f (x : Int) (h0 : -1000 ≤ x) (h1 : x ≤ 1000) : spec_l1Abs.f x = some (max x (-x)) := by
  unfold spec_l1Abs.f spec_l1Most.f
  rw [show wrap64 (-x) = -x by unfold wrap64; omega]
  by_cases h : x > -x
  · rw [if_pos h]; simp; omega
  · rw [if_neg h]; simp; omega
theorem dirs_ext (i : Nat) (d : Int) (hd : ([110, 101, 115, 119] : List Int)[i]? = some d) : (⟨#[110, 101, 115, 119]⟩ : ByteArray).extract i (i + 1) = strOfNums [d] := by
  have hi : i = 0 ∨ i = 1 ∨ i = 2 ∨ i = 3 := by
    have := (List.getElem?_eq_some_iff.1 hd).1
    simp at this
    omega
  rcases hi with rfl | rfl | rfl | rfl <;> simp at hd <;> subst hd <;> decide
theorem dirs_some : ∃ dB : ByteArray, spec_liDirs.f = some dB ∧ dB.size = 4 ∧ ∀ (i : Nat) (d : Int), ([110, 101, 115, 119] : List Int)[i]? = some d → dB.extract i (i + 1) = strOfNums [d] := ⟨_, rfl, by decide, fun i d h => dirs_ext i d h⟩
theorem loStep_f (x y : Int) (i : Nat) (d : Int) (hd : ([110, 101, 115, 119] : List Int)[i]? = some d) (h0 : -1000 ≤ x) (h1 : x ≤ 1000) (h2 : -1000 ≤ y) (h3 : y ≤ 1000) : spec_loStep.f x y (i : Int) = some (nx4 x d, ny4 y d) := by
  have hi : i = 0 ∨ i = 1 ∨ i = 2 ∨ i = 3 := by
    have := (List.getElem?_eq_some_iff.1 hd).1
    simp at this
    omega
  rcases hi with rfl | rfl | rfl | rfl <;> simp at hd <;> subst hd <;> simp [spec_loStep.f, nx4, ny4, rd, wrap64] <;> omega
def pieceS (m : Nat) (seen : List (Int × Int)) (word : List Int) (x y d : Int) : List (List Int) := if word = [] ∧ d ≠ 101 then [] else sAll m (seen ++ [(x, y)]) (word ++ [d]) (nx4 x d) (ny4 y d)
theorem pieceS_len (m : Nat) (seen : List (Int × Int)) (word : List Int) (x y d : Int) : (pieceS m seen word x y d).length ≤ 4 ^ m := by
  unfold pieceS
  split
  · simp
  · exact sAll_len m _ _ _ _
theorem loAll_l0 (n : Int) (m k : Nat) (seen : List (Int × Int)) (word : List Int) (x y : Int) (out : List ByteArray) (i : Nat) (d : Int) (hd : ([110, 101, 115, 119] : List Int)[i]? = some d) (hs : seen.length ≤ 1000) (hw : word.length ≤ 1000) (hm : m ≤ 14) (ho : out.length ≤ 4 * 4 ^ m)
    (h0 : -1000 ≤ x) (h1 : x ≤ 1000) (h2 : -1000 ≤ y) (h3 : y ≤ 1000)
    (ih : ∀ z ∈ [nx4 x d], spec_loAll.f k n (strOfNums (word ++ [d])) ((seen ++ [(x, y)]).map ofP) z (ny4 y d) = some ((sAll m (seen ++ [(x, y)]) (word ++ [d]) z (ny4 y d)).map strOfNums)) :
    spec_loAll.l0 (k + 2) n (strOfNums word) (seen.map ofP) out (i : Int) x y = spec_loAll.l0 k n (strOfNums word) (seen.map ofP) (out ++ (pieceS m seen word x y d).map strOfNums) ((i : Int) + 1) x y := by
  have hi : i < 4 := by have := (List.getElem?_eq_some_iff.1 hd).1; simpa using this
  have hsz := strOfNums_size word
  have hw1 : wrap64 ((i : Int) + 1) = (i : Int) + 1 := by unfold wrap64; omega
  have hj2 : ∀ b : Bool, (b = true ↔ (word = [] ∧ d ≠ 101)) → spec_loAll.j2 (k + 1) n (strOfNums word) (seen.map ofP) out (i : Int) b x y = spec_loAll.l0 k n (strOfNums word) (seen.map ofP) (out ++ (pieceS m seen word x y d).map strOfNums) ((i : Int) + 1) x y := by
    intro b hb
    simp only [spec_loAll.j2]
    by_cases hbt : b = true
    · rw [if_pos hbt, hw1]
      unfold pieceS
      rw [if_pos (hb.1 hbt)]
      simp
    · rw [if_neg hbt]
      have hp : pieceS m seen word x y d = sAll m (seen ++ [(x, y)]) (word ++ [d]) (nx4 x d) (ny4 y d) := by unfold pieceS; rw [if_neg (fun h => hbt (hb.2 h))]
      have hlen := pieceS_len m seen word x y d
      have h4 : 4 ^ m ≤ 268435456 := Nat.le_trans (Nat.pow_le_pow_right (by omega) hm) (by decide)
      generalize 4 ^ m = pw at hlen h4 ho
      simp only [Option.bind_some, List.nil_append, List.length_nil, List.length_map, List.length_cons]
      rw [if_pos (by omega), if_pos (by omega)]
      obtain ⟨dB, hB1, hB2, hB3⟩ := dirs_some
      rw [hB1, Option.bind_some, hw1, if_pos (by omega), if_pos (by omega), if_pos (by omega)]
      rw [show ((i : Int) + 1).toNat = i + 1 by omega, show (i : Int).toNat = i by omega, hB3 i d hd, strOfNums_size, strOfNums_size]
      rw [if_pos (by simp; omega), loStep_f x y i d hd h0 h1 h2 h3, Option.bind_some]
      rw [strOf_app, show seen.map ofP ++ [(⟨x, y⟩ : S43)] = (seen ++ [(x, y)]).map ofP by simp [ofP]]
      have ih1 := ih _ (List.mem_singleton.2 rfl)
      rw [show (spec_loAll.f k n (strOfNums (word ++ [d])) ((seen ++ [(x, y)]).map ofP) (nx4 x d, ny4 y d).fst (nx4 x d, ny4 y d).snd) = some ((sAll m (seen ++ [(x, y)]) (word ++ [d]) (nx4 x d) (ny4 y d)).map strOfNums) from ih1, Option.bind_some]
      rw [hp] at hlen ⊢
      rw [if_pos (by simp only [List.length_map]; omega)]
  simp only [spec_loAll.l0]
  rw [if_pos (by omega)]
  by_cases hw0 : word = []
  · subst hw0
    rw [if_pos (by simp [strOfNums_size])]
    refine hj2 _ ?_
    have hi4 : i = 0 ∨ i = 1 ∨ i = 2 ∨ i = 3 := by omega
    rcases hi4 with rfl | rfl | rfl | rfl <;> simp at hd <;> subst hd <;> simp
  · rw [if_neg (by rw [hsz]; have := List.length_pos_iff.2 hw0; omega)]
    exact hj2 false ⟨fun h => by simp at h, fun h => absurd h.1 hw0⟩
theorem loAll_loop (n : Int) (m k : Nat) (seen : List (Int × Int)) (word : List Int) (x y : Int) (hs : seen.length ≤ 1000) (hw : word.length ≤ 1000) (hm : m ≤ 14) (h0 : -1000 ≤ x) (h1 : x ≤ 1000) (h2 : -1000 ≤ y) (h3 : y ≤ 1000)
    (ih : ∀ k', k ≤ k' → ∀ d ∈ ([110, 101, 115, 119] : List Int), spec_loAll.f k' n (strOfNums (word ++ [d])) ((seen ++ [(x, y)]).map ofP) (nx4 x d) (ny4 y d) = some ((sAll m (seen ++ [(x, y)]) (word ++ [d]) (nx4 x d) (ny4 y d)).map strOfNums)) :
    spec_loAll.l0 (k + 9) n (strOfNums word) (seen.map ofP) [] 0 x y = some ((([110, 101, 115, 119] : List Int).flatMap (pieceS m seen word x y)).map strOfNums) := by
  have p := fun d => pieceS_len m seen word x y d
  have s0 := loAll_l0 n m (k + 7) seen word x y [] 0 110 rfl hs hw hm (by simp) h0 h1 h2 h3 (fun z hz => by simp at hz; subst hz; exact ih _ (by omega) _ (by simp))
  have s1 := loAll_l0 n m (k + 5) seen word x y ([] ++ (pieceS m seen word x y 110).map strOfNums) 1 101 rfl hs hw hm (by have := p 110; simp; omega) h0 h1 h2 h3 (fun z hz => by simp at hz; subst hz; exact ih _ (by omega) _ (by simp))
  have s2 := loAll_l0 n m (k + 3) seen word x y ([] ++ (pieceS m seen word x y 110).map strOfNums ++ (pieceS m seen word x y 101).map strOfNums) 2 115 rfl hs hw hm (by have := p 110; have := p 101; simp; omega) h0 h1 h2 h3 (fun z hz => by simp at hz; subst hz; exact ih _ (by omega) _ (by simp))
  have s3 := loAll_l0 n m (k + 1) seen word x y ([] ++ (pieceS m seen word x y 110).map strOfNums ++ (pieceS m seen word x y 101).map strOfNums ++ (pieceS m seen word x y 115).map strOfNums) 3 119 rfl hs hw hm (by have := p 110; have := p 101; have := p 115; simp; omega) h0 h1 h2 h3 (fun z hz => by simp at hz; subst hz; exact ih _ (by omega) _ (by simp))
  have e0 : ((0 : Nat) : Int) = 0 := rfl
  have e1 : ((0 : Nat) : Int) + 1 = ((1 : Nat) : Int) := rfl
  have e2 : ((1 : Nat) : Int) + 1 = ((2 : Nat) : Int) := rfl
  have e3 : ((2 : Nat) : Int) + 1 = ((3 : Nat) : Int) := rfl
  rw [e0] at s0
  rw [show k + 9 = k + 7 + 2 from rfl, s0, show (0 : Int) + 1 = ((1 : Nat) : Int) from rfl, show k + 7 = k + 5 + 2 from rfl, s1, e2, show k + 5 = k + 3 + 2 from rfl, s2, e3, show k + 3 = k + 1 + 2 from rfl, s3]
  simp only [spec_loAll.l0]
  rw [if_neg (by omega)]
  simp
theorem loAll_f : ∀ (m : Nat) (k : Nat) (n : Int) (seen : List (Int × Int)) (word : List Int) (x y : Int), (word.length : Int) + m = n → n ≤ 14 → seen.length ≤ word.length → 100 + 20 * m ≤ k → -100 - (14 - (m : Int)) ≤ x → x ≤ 100 + (14 - (m : Int)) → -100 - (14 - (m : Int)) ≤ y → y ≤ 100 + (14 - (m : Int)) →
    spec_loAll.f k n (strOfNums word) (seen.map ofP) x y = some ((sAll m seen word x y).map strOfNums)
  | m, k, n, seen, word, x, y, hn, hn2, hs, hk, h0, h1, h2, h3 => by
    obtain ⟨k, rfl⟩ : ∃ j, k = j + 11 := ⟨k - 11, by omega⟩
    have hsz := strOfNums_size word
    have hwr : wrap64 (n - ((strOfNums word).size : Int)) = (m : Int) := by rw [hsz]; unfold wrap64; omega
    show spec_loAll.f (k + 10 + 1) _ _ _ _ _ = _
    simp only [spec_loAll.f]
    rw [hwr]
    cases m with
    | zero =>
      rw [if_pos (show ((0 : Nat) : Int) = 0 from rfl)]
      unfold sAll
      by_cases hxy : x = 0 ∧ y = 0
      · rw [if_pos (by simp [hxy.1, hxy.2]), if_pos hxy]; rfl
      · rw [if_neg (by simp; intro a b; exact hxy ⟨a, b⟩), if_neg hxy]; rfl
    | succ m =>
      rw [if_neg (by omega), absP_f x (by omega) (by omega), absP_f y (by omega) (by omega)]
      simp only [Option.bind_some]
      rw [show wrap64 (max x (-x) + max y (-y)) = max x (-x) + max y (-y) by unfold wrap64; omega, hasP_f seen x y (k + 10) (by omega) (by omega)]
      simp only [Option.bind_some]
      have hj : ∀ b : Bool, b = decide (badS (m + 1) seen word x y) → spec_loAll.j0 (k + 10) n (strOfNums word) (seen.map ofP) b x y = some ((sAll (m + 1) seen word x y).map strOfNums) := by
        intro b hb
        simp only [spec_loAll.j0]
        unfold sAll
        by_cases hbad : badS (m + 1) seen word x y
        · rw [if_pos (by rw [hb]; exact decide_eq_true hbad), if_pos hbad]; rfl
        · rw [if_neg (by rw [hb]; simp [hbad]), if_neg hbad]
          exact loAll_loop n m k seen word x y (by omega) (by omega) (by omega) (by omega) (by omega) (by omega) (by omega) (fun k' hk' d hd => by
            refine loAll_f m k' n (seen ++ [(x, y)]) (word ++ [d]) (nx4 x d) (ny4 y d) (by simp; omega) hn2 (by simp; omega) (by omega) ?_ ?_ ?_ ?_ <;>
            · simp at hd; rcases hd with rfl | rfl | rfl | rfl <;> simp [nx4, ny4] <;> omega)
      have hgt : (max x (-x) + max y (-y) > ((m + 1 : Nat) : Int)) ↔ ((m + 1 : Nat) : Int) < max x (-x) + max y (-y) := Iff.rfl
      by_cases c1 : max x (-x) + max y (-y) > ((m + 1 : Nat) : Int)
      · rw [if_pos c1]; exact hj true (by rw [eq_comm, decide_eq_true_iff]; exact .inl c1)
      · rw [if_neg c1]
        have rest : ∀ (hw : ¬ (word ≠ [] ∧ x = 0 ∧ y = 0)), (if decide ((x, y) ∈ seen) = true then spec_loAll.j0 (k + 10) n (strOfNums word) (seen.map ofP) true x y else if y < 0 then spec_loAll.j0 (k + 10) n (strOfNums word) (seen.map ofP) true x y else if y = 0 then spec_loAll.j0 (k + 10) n (strOfNums word) (seen.map ofP) (decide (x < 0)) x y else spec_loAll.j0 (k + 10) n (strOfNums word) (seen.map ofP) false x y) = some ((sAll (m + 1) seen word x y).map strOfNums) := by
          intro hw
          by_cases c2 : (x, y) ∈ seen
          · rw [if_pos (by simp [c2])]; exact hj true (by rw [eq_comm, decide_eq_true_iff]; exact .inr (.inr (.inl c2)))
          · rw [if_neg (by simp [c2])]
            by_cases c3 : y < 0
            · rw [if_pos c3]; exact hj true (by rw [eq_comm, decide_eq_true_iff]; exact .inr (.inr (.inr (.inl c3))))
            · rw [if_neg c3]
              by_cases c4 : y = 0
              · rw [if_pos c4]
                refine hj _ ?_
                rw [decide_eq_decide]
                constructor
                · intro h; exact .inr (.inr (.inr (.inr ⟨c4, h⟩)))
                · rintro (h | h | h | h | h)
                  · exact absurd h c1
                  · exact absurd h hw
                  · exact absurd h c2
                  · exact absurd h c3
                  · exact h.2
              · rw [if_neg c4]
                refine hj false ?_
                rw [eq_comm, decide_eq_false_iff_not]
                rintro (h | h | h | h | h)
                · exact c1 h
                · exact hw h
                · exact c2 h
                · exact c3 h
                · exact c4 h.1
        by_cases hw0 : word = []
        · rw [if_neg (by rw [hsz, hw0]; simp)]
          exact rest (fun h => h.1 hw0)
        · rw [if_pos (by rw [hsz]; have := List.length_pos_iff.2 hw0; omega)]
          by_cases hxy : x = 0 ∧ y = 0
          · rw [if_pos (by simp [hxy.1, hxy.2])]
            exact hj true (by rw [eq_comm, decide_eq_true_iff]; exact .inr (.inl ⟨hw0, hxy⟩))
          · rw [if_neg (by simp; intro a b; exact hxy ⟨a, b⟩)]
            exact rest (fun h => hxy h.2)

end Go.Proofs.Ytbnkdfmomcmmaaa.P


/- The law FnExactAllLoops, as a statement of numbers and lists: both sides list the same words; no condition. -/
namespace Go.Proofs.Ytbnkdfmomcmmaaa.Pure
open Go.RowKit Go.Proofs.Ytbnkdfmomcmmaaa.P Go.Proofs.YtbnkdfmomcmmaaaW.PrintWords Go.Proofs.YtbnkdfmomcmmaaaW.PrintLast
theorem isLength_casesA (a : Int) : (impl_isLength.f a = some false ∧ spec_loNumber.f a = some false) ∨ (∃ m : Nat, 3 ≤ m ∧ m ≤ 13 ∧ a = (m : Int) + 1 ∧ impl_isLength.f a = some true ∧ spec_loNumber.f a = some true) := by
  unfold impl_isLength.f impl_within.f spec_loNumber.f spec_l1In.f
  by_cases h1 : 4 ≤ a
  · by_cases h2 : a ≤ 14
    · by_cases h3 : (Int.tmod a 2 == 0) = true
      · exact .inr ⟨(a - 1).toNat, by omega, by omega, by omega, by simp [h1, h2, h3], by simp [h1, h2, h3]⟩
      · have h3' : (Int.tmod a 2 == 0) = false := by simpa using h3
        exact .inl ⟨by simp [h1, h2, h3'], by simp [h1, h2, h3']⟩
    · exact .inl ⟨by simp [h1, h2], by simp [h1, h2]⟩
  · exact .inl ⟨by simp [h1], by simp [h1]⟩
theorem loEach_fA (m : Nat) (h3 : 3 ≤ m) (h13 : m ≤ 13) : spec_loEach.f 500 ((m : Int) + 1) = some ((P.loopWords m).map strOfNums) := by
  unfold spec_loEach.f
  have h := loAll_f (m + 1) 500 ((m : Int) + 1) [] [] 0 0 (by simp) (by omega) (by simp) (by omega) (by omega) (by omega) (by omega) (by omega)
  rw [sAll_top m h3] at h
  have e : (⟨#[]⟩ : ByteArray) = strOfNums [] := rfl
  rw [e, show ([] : List S43) = ([] : List (Int × Int)).map ofP from rfl, h]
  rfl
theorem upA {α : Type} {f : Nat → Option α} (hm : ∀ k, LeO (f k) (f (k + 1))) {k k' : Nat} (h : k ≤ k') {r : α} (hr : f k = some r) : f k' = some r := by
  induction h with
  | refl => exact hr
  | step _ ih => exact hm _ _ ih
theorem wrapA {n : Int} (h0 : 0 ≤ n) (h1 : n ≤ 1000000000) : wrap64 n = n := by unfold wrap64; omega
theorem eqS_l0 (l : List ByteArray) (hL : l.length ≤ 1000000) : ∀ (d k i : Nat), l.length - i = d → i ≤ l.length → d < k → laws_eqStringS.l0 k l l (i : Int) = some true := by
  intro d
  induction d with
  | zero =>
    intro k i hd hi hk
    obtain ⟨k, rfl⟩ : ∃ m, k = m + 1 := ⟨k - 1, by omega⟩
    simp only [laws_eqStringS.l0]
    rw [if_neg (by omega)]
  | succ d ih =>
    intro k i hd hi hk
    obtain ⟨k, rfl⟩ : ∃ m, k = m + 1 := ⟨k - 1, by omega⟩
    simp only [laws_eqStringS.l0]
    rw [if_pos (by omega), if_pos (by omega), if_pos (by omega), if_pos trivial, wrapA (by omega) (by omega)]
    exact ih k (i + 1) (by omega) (by omega) (by omega)
theorem eqS_f (l : List ByteArray) (hL : l.length ≤ 1000000) (k : Nat) (hk : 1000000 < k) : laws_eqStringS.f k l l = some true := by
  unfold laws_eqStringS.f
  rw [if_pos rfl]
  exact eqS_l0 l hL l.length k 0 (by omega) (by omega) (by omega)
theorem markT_l0 : ∀ (d k : Nat) (x : Int) (s : ByteArray), 0 ≤ x → x ≤ 1000000000 → x < 10 ^ d → d < k → s.size + d ≤ 1000 → ∃ t, laws_markText.l0 k x s = some t := by
  intro d
  induction d with
  | zero =>
    intro k x s h0 hb h1 hk hs
    obtain ⟨k, rfl⟩ : ∃ m, k = m + 1 := ⟨k - 1, by omega⟩
    simp only [laws_markText.l0]
    rw [if_neg (by simp at h1; omega), if_pos (by omega)]
    exact ⟨_, rfl⟩
  | succ d ih =>
    intro k x s h0 hb h1 hk hs
    obtain ⟨k, rfl⟩ : ∃ m, k = m + 1 := ⟨k - 1, by omega⟩
    simp only [laws_markText.l0]
    by_cases hx : x > 0
    · rw [if_pos hx]
      rw [Option.bind_some]
      have hz : ∀ n : Int, (strOfNums [n]).size = 1 := fun n => by rfl
      have hx9 : x / 10 < 10 ^ d := by
        rw [Int.pow_succ] at h1
        exact Int.ediv_lt_of_lt_mul (by omega) h1
      have hw : wrap64 (Int.tdiv x 10) = x / 10 := by
        rw [Int.tdiv_eq_ediv_of_nonneg h0]; exact wrapA (by omega) (by omega)
      rw [if_pos (by rw [hz]; omega), hw]
      exact ih k _ _ (by omega) (by omega) hx9 (by omega) (by rw [ByteArray.size_append, hz]; omega)
    · rw [if_neg hx, if_pos (by omega)]
      exact ⟨_, rfl⟩
def mT (x : Int) : ByteArray := (laws_markText.f 50 x).getD ⟨#[]⟩
theorem markT_f (x : Int) (h0 : 0 ≤ x) (h1 : x ≤ 1000000000) (k : Nat) (hk : 50 ≤ k) : laws_markText.f k x = some (mT x) := by
  refine upA (fun k => laws_markText.mono x k) hk ?_
  unfold mT laws_markText.f
  split
  · rfl
  · obtain ⟨t, ht⟩ := markT_l0 10 50 x ⟨#[]⟩ h0 h1 (by show x < 10000000000; omega) (by omega) (by show 0 + 10 ≤ 1000; omega)
    rw [ht]; rfl
theorem markS_l0 : ∀ (d k i : Nat) (l : List ByteArray) (x : Int), l.length ≤ 1000000 → l.length - i = d → i ≤ l.length → d + 50 < k → 0 ≤ x → x + d ≤ 100000000 →
    ∃ r, laws_markStringS.l0 k l x (i : Int) = some (x + d, r) ∧ r.length = l.length ∧ (∀ j, j < i → r[j]? = l[j]?) ∧ ∀ j, i ≤ j → j < l.length → r[j]? = some (mT (x + (j - i : Nat))) := by
  intro d
  induction d with
  | zero =>
    intro k i l x hL hd hi hk h0 h1
    obtain ⟨k, rfl⟩ : ∃ m, k = m + 1 := ⟨k - 1, by omega⟩
    refine ⟨l, ?_, rfl, fun _ _ => rfl, fun j h2 h3 => by omega⟩
    simp only [laws_markStringS.l0]
    rw [if_neg (by omega)]
    simp
  | succ d ih =>
    intro k i l x hL hd hi hk h0 h1
    obtain ⟨k, rfl⟩ : ∃ m, k = m + 1 := ⟨k - 1, by omega⟩
    obtain ⟨r, hr, h2, h3, h4⟩ := ih k (i + 1) (l.set i (mT x)) (x + 1) (by simpa using hL) (by simp; omega) (by simp; omega) (by omega) (by omega) (by omega)
    refine ⟨r, ?_, by simpa using h2, fun j hj => ?_, fun j hj hl => ?_⟩
    · simp only [laws_markStringS.l0]
      rw [if_pos (by omega), markT_f x (by omega) (by omega) k (by omega), Option.bind_some, if_pos (by omega), wrapA (by omega) (by omega), wrapA (by omega) (by omega), Int.toNat_natCast]
      rw [show ((d + 1 : Nat) : Int) = 1 + (d : Int) by omega, ← Int.add_assoc]
      exact hr
    · rw [h3 j (by omega), List.getElem?_set_ne (by omega)]
    · rcases Nat.eq_or_lt_of_le hj with rfl | hj
      · rw [h3 i (by omega), List.getElem?_set_self (by omega)]; simp
      · rw [h4 j (by omega) (by simpa using hl)]
        congr 2
        omega
theorem heldS_l0 : ∀ (d k i : Nat) (l : List ByteArray) (x : Int), l.length ≤ 1000000 → l.length - i = d → i ≤ l.length → d + 50 < k → 0 ≤ x → x + d ≤ 100000000 → (∀ j, i ≤ j → j < l.length → l[j]? = some (mT (x + (j - i : Nat)))) →
    laws_heldStringS.l0 k l x (i : Int) = some (x + d) := by
  intro d
  induction d with
  | zero =>
    intro k i l x hL hd hi hk h0 h1 hm
    obtain ⟨k, rfl⟩ : ∃ m, k = m + 1 := ⟨k - 1, by omega⟩
    simp only [laws_heldStringS.l0]
    rw [if_neg (by omega)]
    simp
  | succ d ih =>
    intro k i l x hL hd hi hk h0 h1 hm
    obtain ⟨k, rfl⟩ : ∃ m, k = m + 1 := ⟨k - 1, by omega⟩
    simp only [laws_heldStringS.l0]
    have hx : rdOf ByteArray.empty l (i : Int) = mT x := by
      unfold rdOf
      rw [Int.toNat_natCast, List.getD_eq_getElem?_getD, hm i (Nat.le_refl _) (by omega)]
      simp
    rw [if_pos (by omega), if_pos (by omega), markT_f x (by omega) (by omega) k (by omega), Option.bind_some, hx, if_pos rfl, wrapA (by omega) (by omega), wrapA (by omega) (by omega)]
    have h := ih k (i + 1) l (x + 1) hL (by omega) (by omega) (by omega) (by omega) (by omega) (fun j hj hl => by
      rw [hm j (by omega) hl]
      congr 2
      omega)
    rw [show ((d + 1 : Nat) : Int) = 1 + (d : Int) by omega, ← Int.add_assoc]
    exact h
theorem loopWords_len (m : Nat) (h : m ≤ 9) : (P.loopWords m).length ≤ 262144 := by
  have h1 := walkW_len m [(1, 0), (0, 0)] [101] 1 0
  have h2 : 4 ^ m ≤ 4 ^ 9 := Nat.pow_le_pow_right (by omega) h
  unfold P.loopWords
  omega
theorem law_all (a0 : Int) (R : List ByteArray) (b : Bool) (hR : R.length ≤ 300000) (hs : spec_AllLoops.f 500 a0 = some (R, b)) (hi : impl_AllLoops.f a0 = some (R, b)) : laws_FnExactAllLoops.f 3000000 a0 = some true := by
  have hs' : spec_AllLoops.f 3000000 a0 = some (R, b) := upA (fun k => spec_AllLoops.mono a0 k) (by omega) hs
  unfold laws_FnExactAllLoops.f
  rw [hs', Option.bind_some, hi, Option.bind_some, eqS_f R (by omega) _ (by omega), Option.bind_some, if_pos rfl]
  obtain ⟨r, h1, h2, _, h4⟩ := markS_l0 R.length 2999999 0 R 101 (by omega) (by omega) (by omega) (by omega) (by omega) (by omega)
  have h5 := heldS_l0 r.length 2999999 0 r 101 (by omega) (by omega) (by omega) (by omega) (by omega) (by omega) (fun j hj hl => h4 j hj (by omega))
  have h6 := heldS_l0 r.length 2999998 0 r 101 (by omega) (by omega) (by omega) (by omega) (by omega) (by omega) (fun j hj hl => h4 j hj (by omega))
  have e3 : (3000000 : Nat) = 2999999 + 1 := rfl
  have e2 : (2999999 : Nat) = 2999998 + 1 := rfl
  have h1' : laws_markStringS.f 2999999 R 101 = some (101 + (R.length : Int), r) := h1
  have h5' : laws_heldStringS.f 2999999 r 101 = some (101 + (R.length : Int)) := by rw [← h2]; exact h5
  have h6' : laws_heldStringS.f 2999998 r 101 = some (101 + (R.length : Int)) := by rw [← h2]; exact h6
  rw [e3]
  simp only [laws_FnExactAllLoops.j0]
  rw [if_neg (by simp), h1', Option.bind_some, h5', Option.bind_some, if_neg (by omega), if_pos rfl, hi, Option.bind_some, eqS_f R (by omega) _ (by omega), Option.bind_some, if_pos rfl, e2]
  simp only [laws_FnExactAllLoops.j1]
  rw [if_neg (by simp), h6', Option.bind_some, if_neg (by omega), if_pos rfl]
theorem FnExactAllLoops : laws_FnExactAllLoops.Pure := by
  intro a0 _
  refine ⟨3000000, ?_⟩
  rcases isLength_casesA a0 with ⟨h1, h2⟩ | ⟨m, h3, h13, rfl, h1, h2⟩
  · refine law_all a0 [] false (by simp) ?_ ?_
    · unfold spec_AllLoops.f; rw [h2]; simp
    · unfold impl_AllLoops.f; rw [h1]; simp
  · by_cases h10 : (m : Int) + 1 > 10
    · refine law_all _ [] false (by simp) ?_ ?_
      · unfold spec_AllLoops.f; rw [h2]; simp [h10]
      · unfold impl_AllLoops.f; rw [h1]; simp; omega
    · refine law_all _ ((P.loopWords m).map strOfNums) true (by rw [List.length_map]; have := loopWords_len m (by omega); omega) ?_ ?_
      · unfold spec_AllLoops.f; rw [h2, Option.bind_some, if_pos rfl, if_neg h10, loEach_fA m h3 h13, Option.bind_some]
      · unfold impl_AllLoops.f; rw [h1, Option.bind_some, if_pos ⟨rfl, by omega⟩]
        rw [show ((m : Int) + 1 - 1).toNat = m by omega]
end Go.Proofs.Ytbnkdfmomcmmaaa.Pure


namespace Go.Proofs.Ytbnkdfmomcmmaaa.fnExactAllLoops
open Go.ChangeShapes Go.WideShapes Go.ChangeAt Go.RowKit
open Go.ChangeMaps (open_string shut_string)
set_option linter.unusedVariables false
theorem own : ownKnob Try.prog.godebug = none := by kernel_rfl
set_option maxRecDepth 100000 in
theorem lifted (os : Os) (started : os.Started) (H : Type) (enc : TypeId × Value → H) :
    ReturnsInHanded {} Try.checked os 4 .any (Rows.fnExactAllLoopsSpec.pre6 enc Try.prog Try.f4 Rows.fnExactAllLoopsRow.domain false) (Rows.fnExactAllLoopsSpec.post enc Try.prog Try.f4 false true false false) := by
  refine returnsInHanded_of_change_sized (C := Try.checked) own started (by kernel_rfl) Try.func4
    (ChangeSpec.witness6 (enc := enc) (C := Try.checked) false ⟨#[], #[.int .i64 0], []⟩ 8 (by kernel_rfl) (by kernel_rfl) (by kernel_rfl) (by kernel_rfl)) ?_
  intro W base args ds gs before hval0 hW hcnd hsz0 _
  have hsz : (DataW.weightsEach Try.prog (Try.f4.params.toList ++ Rows.fnExactAllLoopsSpec.plain.varTypes Try.prog) (ds ++ gs)).all (· ≤ reachBytes) = true := hsz0
  have hval : ∀ (j : Nat) t v, Try.f4.params[j]? = some t → args[j]? = some v → Value.okWide Try.prog W .any base t v := hval0
  have hW' := hW
  obtain ⟨p, q, hA0, hV, rfl, hfz, hnd⟩ := hW
  have hA : DataW.TrodAll enc Try.prog W 0 (fun _ => true) true Try.f4.params.toList args.toList ds p := hA0
  rw [Try.params4] at hA hval hsz
  obtain ⟨v0, vs0, d0, ds0, p0, q0, hargs, rfl, rfl, h0, r0⟩ := trodAll_cons hA
  obtain ⟨rfl, rfl, rfl⟩ := trodAll_nil r0
  obtain rfl : args = #[v0] := by cases args; simp_all
  obtain ⟨rfl, rfl⟩ := trodVars_none hV
  obtain ⟨a0, rfl, rfl, rfl, w0⟩ := open_int Try.underlying3 (hval 0 3 v0 rfl rfl) h0
  clear hA0 hval0 hsz0 hsz
  refine (P.laws_FnExactAllLoops.walk Pure.FnExactAllLoops a0 W w0).mono fun e W' ⟨he, bel⟩ => ?_
  subst he
  exact ⟨_, rfl, _, _, _, [], _, [], hW', trodAll_mk1 (shut_bool Try.underlying4 _), (trodAll_cons_mk (shut_int Try.underlying3 w0) trodAll_mk0), rfl, bel.frame _, fun h => by cases h⟩
theorem over : Rows.fnExactAllLoopsRow.holds Try.pinned (OpenSpec.ofChange Rows.fnExactAllLoopsSpec) :=
  OpenClaim.holds_of_wide 4 Try.f4 rfl rfl rfl rfl rfl rfl rfl ⟨rfl, rfl, rfl, rfl, rfl⟩ rfl rfl rfl rfl rfl (by kernel_rfl) Try.func4 (by kernel_rfl)
    (of_decide_eq_true (by kernel_rfl)) (by unfold Func.isWrapper; first | (rw [if_pos (by decide +kernel)]; kernel_rfl) | (rw [if_neg (by decide +kernel)]; exact ⟨rfl, rfl⟩))
    (fun os started H enc _ => lifted os started H enc)
theorem proved : Rows.FnExactAllLoopsSaid := over
end Go.Proofs.Ytbnkdfmomcmmaaa.fnExactAllLoops
namespace Go.Proofs.Ytbnkdfmomcmmaaa
theorem fnExactAllLoops_holds : Rows.FnExactAllLoopsSaid := fnExactAllLoops.proved
end Go.Proofs.Ytbnkdfmomcmmaaa

