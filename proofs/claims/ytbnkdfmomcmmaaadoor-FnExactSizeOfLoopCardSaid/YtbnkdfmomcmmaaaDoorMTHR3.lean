/- For every input the laws FnExactAreaOfLoop, FnExactCellsOfLoop and FnExactSizeOfLoop answer true: the program tells of a word's cells what the reference tells; no condition. (part 3 of the proof; the words of the kit's print tool and the texts of this seat, merged by a program) -/
import Derived.Below
import Derived.ChangeOld
import Derived.Deep.RegionLaw
import Derived.FnData
import Derived.Handed
import Derived.JoinedOf
import Derived.LaidHandle
import Derived.LaidLaws
import Derived.Laws.IdiomStrings
import Derived.Lib.SmallJoins
import Derived.OpenShut
import Derived.ProofKit
import Derived.SevenTiedAt
import Derived.Shelf.Strings.SlTrimAscii
import Derived.ShutString
import Derived.SizedLaws
import Derived.Test.YtbnkdfmomcmmaaaDoorCards
import Derived.Test.YtbnkdfmomcmmaaaDoorClosed
import Derived.Test.YtbnkdfmomcmmaaaDoorPshelf
import Derived.Test.YtbnkdfmomcmmaaaDoorRows
import Derived.Test.YtbnkdfmomcmmaaaDoorTie
import Derived.WalkKit
import Derived.Test.YtbnkdfmomcmmaaaDoorMTHR2
namespace Go.Proofs.YtbnkdfmomcmmaaaDoor.P
open Go.RowKit Go.Proofs.YtbnkdfmomcmmaaaDoorW.PrintWords Go.Proofs.YtbnkdfmomcmmaaaDoorW.PrintLast Go.Proofs.YtbnkdfmomcmmaaaDoorW.PrintMore
attribute [local go_sem] max2_int min2_int max_two min_two max_three min_three max_four min_four   -- for this text's walks alone
set_option linter.unusedVariables false
set_option linter.unusedSimpArgs false

def impl_Corner_next.f (a0_0 : Int) (a0_1 : Int) (a1 : Int) : Option (Int × Int) := if a1 = 110 then (some (a0_0, wrap64 (a0_1 - 1))) else (if a1 = 101 then (some (wrap64 (a0_0 + 1), a0_1)) else (if a1 = 115 then (some (a0_0, wrap64 (a0_1 + 1))) else (some (wrap64 (a0_0 - 1), a0_1))))
set_option maxHeartbeats 8000000 in
set_option maxRecDepth 100000 in
theorem impl_Corner_next.calls (a0_0 : Int) (a0_1 : Int) (a1 : Int) (r1 : Int) (r2 : Int) (w : World) (h : impl_Corner_next.f a0_0 a0_1 a1 = some (r1, r2)) :
    Calls Tryd.prog 46 #[.agg #[.int .i64 a0_0, .int .i64 a0_1], .int .u8 a1] w fun e w' => e = .returned (.agg #[.int .i64 r1, .int .i64 r2]) ∧ Below w.heap.size w w' := by
  have hu41 := Tryd.underlying41
  have HB := Aside0.mk (Below.refl w.heap.size w)
  have H : (if a1 = 110 then (some (a0_0, wrap64 (a0_1 - 1))) else (if a1 = 101 then (some (wrap64 (a0_0 + 1), a0_1)) else (if a1 = 115 then (some (a0_0, wrap64 (a0_1 + 1))) else (some (wrap64 (a0_0 - 1), a0_1))))) = some (r1, r2) := h
  clear h
  by_cases c3 : a1 = 110
  · rw [if_pos c3] at H
    have c3b0 : (a1 == 110) = true := beq_iff_eq.mpr c3
    have c3b1 : (a1 != 110) = false := bne_eq_false_iff_eq.mpr c3
    clear c3
    simp only [Option.some.injEq, Prod.mk.injEq] at H
    obtain ⟨rfl, rfl⟩ := H
    go_enter Tryd.func46, Tryd.ntmps46
    go_wp2_with (first | ((with_reducible refine gate_dst (N := 2) rfl ?_); refine box_event ?hg (N := 2) ?hd (cs := #[.int .i64 a0_0, .int .i64 a0_1]) (t := 41) ?hr ?_; (case hd => rfl); (case hg => rfl); (case hr => first | (go_simp; done) | (go_simp; rfl)); intro gb130 hg w4 hbox hb; have n0_ := Aside0.mk (below_step (by repeat (first | (with_reducible first | exact HB.out | apply below_alloc | apply pw_below_drewN | apply below_drew1) | exact HB.out)) hb); have n1_ := Aside0.mk (hbox); have n2_ := Aside0.mk ((by rw [hg]; exact (below_size (by repeat (first | (with_reducible first | exact HB.out | apply below_alloc | apply pw_below_drewN | apply below_drew1) | exact HB.out))) : w.heap.size ≤ gb130)); have n3_ := Aside0.mk ((by rw [hg]; exact (below_size (by repeat (first | (with_reducible first | exact HB.out | apply below_alloc | apply pw_below_drewN | apply below_drew1) | exact HB.out))) : w.heap.size ≤ gb130)); clear HB; have HB := n0_; have BK130 := n1_; have GW130 := n2_; have GE130 := n3_; clear n0_ n1_ n2_ n3_; clear hb hbox hg) | ((with_reducible refine gate_dst (N := 4) rfl ?_); refine box_event ?hg (N := 4) ?hd (cs := #[.int .i64 0, .int .i64 0]) (t := 41) ?hr ?_; (case hd => rfl); (case hg => rfl); (case hr => first | (go_simp; done) | (go_simp; rfl)); intro gb131 hg w5 hbox hb; have n0_ := Aside0.mk (blk_below (g := gb130) (o := .cells #[.int .i64 a0_0, .int .i64 a0_1] 41 (0, 0)) (by (with_reducible repeat (first | refine blk_drewN ?_ _ | refine blk_drew ?_ | refine blk_alloc ?_ _)); exact BK130.out) hb); have n1_ := Aside0.mk (below_step (by repeat (first | (with_reducible first | exact HB.out | apply below_alloc | apply pw_below_drewN | apply below_drew1 | refine below_set ?_ GE130.out) | exact HB.out)) hb); have n2_ := Aside0.mk (hbox); have n3_ := Aside0.mk ((by rw [hg]; exact (below_size (by repeat (first | (with_reducible first | exact HB.out | apply below_alloc | apply pw_below_drewN | apply below_drew1 | refine below_set ?_ GE130.out) | exact HB.out))) : w.heap.size ≤ gb131)); have n4_ := Aside0.mk ((by rw [hg]; exact (below_size (by repeat (first | (with_reducible first | exact HB.out | apply below_alloc | apply pw_below_drewN | apply below_drew1 | refine below_set ?_ GE130.out) | exact HB.out))) : w.heap.size ≤ gb131)); have n5_ := Aside0.mk ((by rw [hg]; exact Nat.ne_of_lt (blk_lt (g := gb130) (o := .cells #[.int .i64 a0_0, .int .i64 a0_1] 41 (0, 0)) (by (with_reducible repeat (first | refine blk_drewN ?_ _ | refine blk_drew ?_ | refine blk_alloc ?_ _)); exact BK130.out)) : gb130 ≠ gb131)); have n6_ := Aside0.mk ((by rw [hg]; exact Nat.ne_of_gt (blk_lt (g := gb130) (o := .cells #[.int .i64 a0_0, .int .i64 a0_1] 41 (0, 0)) (by (with_reducible repeat (first | refine blk_drewN ?_ _ | refine blk_drew ?_ | refine blk_alloc ?_ _)); exact BK130.out)) : gb131 ≠ gb130)); clear BK130; clear HB; have BK130 := n0_; have HB := n1_; have BK131 := n2_; have GW131 := n3_; have GE131 := n4_; have NB130_131 := n5_; have NB131_130 := n6_; clear n0_ n1_ n2_ n3_ n4_ n5_ n6_; clear hb hbox hg; have hnb6 := NB130_131.out; have hnc6 := NB131_130.out; have hcz7_0 : w5.cell? ⟨gb130, 0, none⟩ = some (.int .i64 a0_0) := (blk_cell BK130.out 0).trans rfl; have hcz7_1 : w5.cell? ⟨gb130, 1, none⟩ = some (.int .i64 a0_1) := (blk_cell BK130.out 1).trans rfl; have hfz7_0 := blk_frozen BK130.out 0; have hfz7_1 := blk_frozen BK130.out 1; have hcz8_0 : w5.cell? ⟨gb131, 0, none⟩ = some (.int .i64 0) := (blk_cell BK131.out 0).trans rfl; have hcz8_1 : w5.cell? ⟨gb131, 1, none⟩ = some (.int .i64 0) := (blk_cell BK131.out 1).trans rfl; have hfz8_0 := blk_frozen BK131.out 0; have hfz8_1 := blk_frozen BK131.out 1))
    refine bodyPost_ret (results_cell_row rfl _ _ gb131 41 #[.int .i64 a0_0, .int .i64 (wrap64 (a0_1 - 1))] (0, 0) _ rfl (by (with_reducible repeat (first | refine blk_drewN ?_ _ | refine blk_drew ?_ | refine blk_alloc ?_ _)); refine blk_put (cs := #[.int .i64 a0_0, .int .i64 0]) ?_ 1 _ rfl; (with_reducible repeat (first | refine blk_drewN ?_ _ | refine blk_drew ?_ | refine blk_alloc ?_ _)); refine blk_put (cs := #[.int .i64 0, .int .i64 0]) ?_ 0 _ rfl; (with_reducible repeat (first | refine blk_drewN ?_ _ | refine blk_drew ?_ | refine blk_alloc ?_ _)); exact BK131.out) Tryd.underlying41 rfl (by kernel_rfl)) rfl ?_
    exact ⟨by first | rfl | (simp [errW_none, errW_some] <;> rfl) | (simp [*, errW_none, errW_some] <;> rfl), by repeat (first | (with_reducible first | exact HB.out | apply below_alloc | apply pw_below_drewN | apply below_drew1 | refine below_set ?_ GE130.out | refine below_set ?_ GE131.out) | exact HB.out)⟩
  · rw [if_neg c3] at H
    have c3b0 : (a1 == 110) = false := beq_eq_false_iff_ne.mpr c3
    have c3b1 : (a1 != 110) = true := bne_iff_ne.mpr c3
    by_cases c9 : a1 = 101
    · rw [if_pos c9] at H
      have c9b0 : (a1 == 101) = true := beq_iff_eq.mpr c9
      have c9b1 : (a1 != 101) = false := bne_eq_false_iff_eq.mpr c9
      clear c9
      simp only [Option.some.injEq, Prod.mk.injEq] at H
      obtain ⟨rfl, rfl⟩ := H
      go_enter Tryd.func46, Tryd.ntmps46
      go_wp2_with (first | ((with_reducible refine gate_dst (N := 2) rfl ?_); refine box_event ?hg (N := 2) ?hd (cs := #[.int .i64 a0_0, .int .i64 a0_1]) (t := 41) ?hr ?_; (case hd => rfl); (case hg => rfl); (case hr => first | (go_simp; done) | (go_simp; rfl)); intro gb130 hg w10 hbox hb; have n0_ := Aside0.mk (below_step (by repeat (first | (with_reducible first | exact HB.out | apply below_alloc | apply pw_below_drewN | apply below_drew1) | exact HB.out)) hb); have n1_ := Aside0.mk (hbox); have n2_ := Aside0.mk ((by rw [hg]; exact (below_size (by repeat (first | (with_reducible first | exact HB.out | apply below_alloc | apply pw_below_drewN | apply below_drew1) | exact HB.out))) : w.heap.size ≤ gb130)); have n3_ := Aside0.mk ((by rw [hg]; exact (below_size (by repeat (first | (with_reducible first | exact HB.out | apply below_alloc | apply pw_below_drewN | apply below_drew1) | exact HB.out))) : w.heap.size ≤ gb130)); clear HB; have HB := n0_; have BK130 := n1_; have GW130 := n2_; have GE130 := n3_; clear n0_ n1_ n2_ n3_; clear hb hbox hg) | ((with_reducible refine gate_dst (N := 4) rfl ?_); refine box_event ?hg (N := 4) ?hd (cs := #[.int .i64 0, .int .i64 0]) (t := 41) ?hr ?_; (case hd => rfl); (case hg => rfl); (case hr => first | (go_simp; done) | (go_simp; rfl)); intro gb131 hg w11 hbox hb; have n0_ := Aside0.mk (blk_below (g := gb130) (o := .cells #[.int .i64 a0_0, .int .i64 a0_1] 41 (0, 0)) (by (with_reducible repeat (first | refine blk_drewN ?_ _ | refine blk_drew ?_ | refine blk_alloc ?_ _)); exact BK130.out) hb); have n1_ := Aside0.mk (below_step (by repeat (first | (with_reducible first | exact HB.out | apply below_alloc | apply pw_below_drewN | apply below_drew1 | refine below_set ?_ GE130.out) | exact HB.out)) hb); have n2_ := Aside0.mk (hbox); have n3_ := Aside0.mk ((by rw [hg]; exact (below_size (by repeat (first | (with_reducible first | exact HB.out | apply below_alloc | apply pw_below_drewN | apply below_drew1 | refine below_set ?_ GE130.out) | exact HB.out))) : w.heap.size ≤ gb131)); have n4_ := Aside0.mk ((by rw [hg]; exact (below_size (by repeat (first | (with_reducible first | exact HB.out | apply below_alloc | apply pw_below_drewN | apply below_drew1 | refine below_set ?_ GE130.out) | exact HB.out))) : w.heap.size ≤ gb131)); have n5_ := Aside0.mk ((by rw [hg]; exact Nat.ne_of_lt (blk_lt (g := gb130) (o := .cells #[.int .i64 a0_0, .int .i64 a0_1] 41 (0, 0)) (by (with_reducible repeat (first | refine blk_drewN ?_ _ | refine blk_drew ?_ | refine blk_alloc ?_ _)); exact BK130.out)) : gb130 ≠ gb131)); have n6_ := Aside0.mk ((by rw [hg]; exact Nat.ne_of_gt (blk_lt (g := gb130) (o := .cells #[.int .i64 a0_0, .int .i64 a0_1] 41 (0, 0)) (by (with_reducible repeat (first | refine blk_drewN ?_ _ | refine blk_drew ?_ | refine blk_alloc ?_ _)); exact BK130.out)) : gb131 ≠ gb130)); clear BK130; clear HB; have BK130 := n0_; have HB := n1_; have BK131 := n2_; have GW131 := n3_; have GE131 := n4_; have NB130_131 := n5_; have NB131_130 := n6_; clear n0_ n1_ n2_ n3_ n4_ n5_ n6_; clear hb hbox hg; have hnb12 := NB130_131.out; have hnc12 := NB131_130.out; have hcz13_0 : w11.cell? ⟨gb130, 0, none⟩ = some (.int .i64 a0_0) := (blk_cell BK130.out 0).trans rfl; have hcz13_1 : w11.cell? ⟨gb130, 1, none⟩ = some (.int .i64 a0_1) := (blk_cell BK130.out 1).trans rfl; have hfz13_0 := blk_frozen BK130.out 0; have hfz13_1 := blk_frozen BK130.out 1; have hcz14_0 : w11.cell? ⟨gb131, 0, none⟩ = some (.int .i64 0) := (blk_cell BK131.out 0).trans rfl; have hcz14_1 : w11.cell? ⟨gb131, 1, none⟩ = some (.int .i64 0) := (blk_cell BK131.out 1).trans rfl; have hfz14_0 := blk_frozen BK131.out 0; have hfz14_1 := blk_frozen BK131.out 1))
      refine bodyPost_ret (results_cell_row rfl _ _ gb131 41 #[.int .i64 (wrap64 (a0_0 + 1)), .int .i64 a0_1] (0, 0) _ rfl (by (with_reducible repeat (first | refine blk_drewN ?_ _ | refine blk_drew ?_ | refine blk_alloc ?_ _)); refine blk_put (cs := #[.int .i64 (wrap64 (a0_0 + 1)), .int .i64 0]) ?_ 1 _ rfl; (with_reducible repeat (first | refine blk_drewN ?_ _ | refine blk_drew ?_ | refine blk_alloc ?_ _)); refine blk_put (cs := #[.int .i64 0, .int .i64 0]) ?_ 0 _ rfl; (with_reducible repeat (first | refine blk_drewN ?_ _ | refine blk_drew ?_ | refine blk_alloc ?_ _)); exact BK131.out) Tryd.underlying41 rfl (by kernel_rfl)) rfl ?_
      exact ⟨by first | rfl | (simp [errW_none, errW_some] <;> rfl) | (simp [*, errW_none, errW_some] <;> rfl), by repeat (first | (with_reducible first | exact HB.out | apply below_alloc | apply pw_below_drewN | apply below_drew1 | refine below_set ?_ GE130.out | refine below_set ?_ GE131.out) | exact HB.out)⟩
    · rw [if_neg c9] at H
      have c9b0 : (a1 == 101) = false := beq_eq_false_iff_ne.mpr c9
      have c9b1 : (a1 != 101) = true := bne_iff_ne.mpr c9
      by_cases c15 : a1 = 115
      · rw [if_pos c15] at H
        have c15b0 : (a1 == 115) = true := beq_iff_eq.mpr c15
        have c15b1 : (a1 != 115) = false := bne_eq_false_iff_eq.mpr c15
        clear c15
        simp only [Option.some.injEq, Prod.mk.injEq] at H
        obtain ⟨rfl, rfl⟩ := H
        go_enter Tryd.func46, Tryd.ntmps46
        go_wp2_with (first | ((with_reducible refine gate_dst (N := 2) rfl ?_); refine box_event ?hg (N := 2) ?hd (cs := #[.int .i64 a0_0, .int .i64 a0_1]) (t := 41) ?hr ?_; (case hd => rfl); (case hg => rfl); (case hr => first | (go_simp; done) | (go_simp; rfl)); intro gb130 hg w16 hbox hb; have n0_ := Aside0.mk (below_step (by repeat (first | (with_reducible first | exact HB.out | apply below_alloc | apply pw_below_drewN | apply below_drew1) | exact HB.out)) hb); have n1_ := Aside0.mk (hbox); have n2_ := Aside0.mk ((by rw [hg]; exact (below_size (by repeat (first | (with_reducible first | exact HB.out | apply below_alloc | apply pw_below_drewN | apply below_drew1) | exact HB.out))) : w.heap.size ≤ gb130)); have n3_ := Aside0.mk ((by rw [hg]; exact (below_size (by repeat (first | (with_reducible first | exact HB.out | apply below_alloc | apply pw_below_drewN | apply below_drew1) | exact HB.out))) : w.heap.size ≤ gb130)); clear HB; have HB := n0_; have BK130 := n1_; have GW130 := n2_; have GE130 := n3_; clear n0_ n1_ n2_ n3_; clear hb hbox hg) | ((with_reducible refine gate_dst (N := 4) rfl ?_); refine box_event ?hg (N := 4) ?hd (cs := #[.int .i64 0, .int .i64 0]) (t := 41) ?hr ?_; (case hd => rfl); (case hg => rfl); (case hr => first | (go_simp; done) | (go_simp; rfl)); intro gb131 hg w17 hbox hb; have n0_ := Aside0.mk (blk_below (g := gb130) (o := .cells #[.int .i64 a0_0, .int .i64 a0_1] 41 (0, 0)) (by (with_reducible repeat (first | refine blk_drewN ?_ _ | refine blk_drew ?_ | refine blk_alloc ?_ _)); exact BK130.out) hb); have n1_ := Aside0.mk (below_step (by repeat (first | (with_reducible first | exact HB.out | apply below_alloc | apply pw_below_drewN | apply below_drew1 | refine below_set ?_ GE130.out) | exact HB.out)) hb); have n2_ := Aside0.mk (hbox); have n3_ := Aside0.mk ((by rw [hg]; exact (below_size (by repeat (first | (with_reducible first | exact HB.out | apply below_alloc | apply pw_below_drewN | apply below_drew1 | refine below_set ?_ GE130.out) | exact HB.out))) : w.heap.size ≤ gb131)); have n4_ := Aside0.mk ((by rw [hg]; exact (below_size (by repeat (first | (with_reducible first | exact HB.out | apply below_alloc | apply pw_below_drewN | apply below_drew1 | refine below_set ?_ GE130.out) | exact HB.out))) : w.heap.size ≤ gb131)); have n5_ := Aside0.mk ((by rw [hg]; exact Nat.ne_of_lt (blk_lt (g := gb130) (o := .cells #[.int .i64 a0_0, .int .i64 a0_1] 41 (0, 0)) (by (with_reducible repeat (first | refine blk_drewN ?_ _ | refine blk_drew ?_ | refine blk_alloc ?_ _)); exact BK130.out)) : gb130 ≠ gb131)); have n6_ := Aside0.mk ((by rw [hg]; exact Nat.ne_of_gt (blk_lt (g := gb130) (o := .cells #[.int .i64 a0_0, .int .i64 a0_1] 41 (0, 0)) (by (with_reducible repeat (first | refine blk_drewN ?_ _ | refine blk_drew ?_ | refine blk_alloc ?_ _)); exact BK130.out)) : gb131 ≠ gb130)); clear BK130; clear HB; have BK130 := n0_; have HB := n1_; have BK131 := n2_; have GW131 := n3_; have GE131 := n4_; have NB130_131 := n5_; have NB131_130 := n6_; clear n0_ n1_ n2_ n3_ n4_ n5_ n6_; clear hb hbox hg; have hnb18 := NB130_131.out; have hnc18 := NB131_130.out; have hcz19_0 : w17.cell? ⟨gb130, 0, none⟩ = some (.int .i64 a0_0) := (blk_cell BK130.out 0).trans rfl; have hcz19_1 : w17.cell? ⟨gb130, 1, none⟩ = some (.int .i64 a0_1) := (blk_cell BK130.out 1).trans rfl; have hfz19_0 := blk_frozen BK130.out 0; have hfz19_1 := blk_frozen BK130.out 1; have hcz20_0 : w17.cell? ⟨gb131, 0, none⟩ = some (.int .i64 0) := (blk_cell BK131.out 0).trans rfl; have hcz20_1 : w17.cell? ⟨gb131, 1, none⟩ = some (.int .i64 0) := (blk_cell BK131.out 1).trans rfl; have hfz20_0 := blk_frozen BK131.out 0; have hfz20_1 := blk_frozen BK131.out 1))
        refine bodyPost_ret (results_cell_row rfl _ _ gb131 41 #[.int .i64 a0_0, .int .i64 (wrap64 (a0_1 + 1))] (0, 0) _ rfl (by (with_reducible repeat (first | refine blk_drewN ?_ _ | refine blk_drew ?_ | refine blk_alloc ?_ _)); refine blk_put (cs := #[.int .i64 a0_0, .int .i64 0]) ?_ 1 _ rfl; (with_reducible repeat (first | refine blk_drewN ?_ _ | refine blk_drew ?_ | refine blk_alloc ?_ _)); refine blk_put (cs := #[.int .i64 0, .int .i64 0]) ?_ 0 _ rfl; (with_reducible repeat (first | refine blk_drewN ?_ _ | refine blk_drew ?_ | refine blk_alloc ?_ _)); exact BK131.out) Tryd.underlying41 rfl (by kernel_rfl)) rfl ?_
        exact ⟨by first | rfl | (simp [errW_none, errW_some] <;> rfl) | (simp [*, errW_none, errW_some] <;> rfl), by repeat (first | (with_reducible first | exact HB.out | apply below_alloc | apply pw_below_drewN | apply below_drew1 | refine below_set ?_ GE130.out | refine below_set ?_ GE131.out) | exact HB.out)⟩
      · rw [if_neg c15] at H
        have c15b0 : (a1 == 115) = false := beq_eq_false_iff_ne.mpr c15
        have c15b1 : (a1 != 115) = true := bne_iff_ne.mpr c15
        simp only [Option.some.injEq, Prod.mk.injEq] at H
        obtain ⟨rfl, rfl⟩ := H
        go_enter Tryd.func46, Tryd.ntmps46
        go_wp2_with (first | ((with_reducible refine gate_dst (N := 2) rfl ?_); refine box_event ?hg (N := 2) ?hd (cs := #[.int .i64 a0_0, .int .i64 a0_1]) (t := 41) ?hr ?_; (case hd => rfl); (case hg => rfl); (case hr => first | (go_simp; done) | (go_simp; rfl)); intro gb130 hg w21 hbox hb; have n0_ := Aside0.mk (below_step (by repeat (first | (with_reducible first | exact HB.out | apply below_alloc | apply pw_below_drewN | apply below_drew1) | exact HB.out)) hb); have n1_ := Aside0.mk (hbox); have n2_ := Aside0.mk ((by rw [hg]; exact (below_size (by repeat (first | (with_reducible first | exact HB.out | apply below_alloc | apply pw_below_drewN | apply below_drew1) | exact HB.out))) : w.heap.size ≤ gb130)); have n3_ := Aside0.mk ((by rw [hg]; exact (below_size (by repeat (first | (with_reducible first | exact HB.out | apply below_alloc | apply pw_below_drewN | apply below_drew1) | exact HB.out))) : w.heap.size ≤ gb130)); clear HB; have HB := n0_; have BK130 := n1_; have GW130 := n2_; have GE130 := n3_; clear n0_ n1_ n2_ n3_; clear hb hbox hg) | ((with_reducible refine gate_dst (N := 4) rfl ?_); refine box_event ?hg (N := 4) ?hd (cs := #[.int .i64 0, .int .i64 0]) (t := 41) ?hr ?_; (case hd => rfl); (case hg => rfl); (case hr => first | (go_simp; done) | (go_simp; rfl)); intro gb131 hg w22 hbox hb; have n0_ := Aside0.mk (blk_below (g := gb130) (o := .cells #[.int .i64 a0_0, .int .i64 a0_1] 41 (0, 0)) (by (with_reducible repeat (first | refine blk_drewN ?_ _ | refine blk_drew ?_ | refine blk_alloc ?_ _)); exact BK130.out) hb); have n1_ := Aside0.mk (below_step (by repeat (first | (with_reducible first | exact HB.out | apply below_alloc | apply pw_below_drewN | apply below_drew1 | refine below_set ?_ GE130.out) | exact HB.out)) hb); have n2_ := Aside0.mk (hbox); have n3_ := Aside0.mk ((by rw [hg]; exact (below_size (by repeat (first | (with_reducible first | exact HB.out | apply below_alloc | apply pw_below_drewN | apply below_drew1 | refine below_set ?_ GE130.out) | exact HB.out))) : w.heap.size ≤ gb131)); have n4_ := Aside0.mk ((by rw [hg]; exact (below_size (by repeat (first | (with_reducible first | exact HB.out | apply below_alloc | apply pw_below_drewN | apply below_drew1 | refine below_set ?_ GE130.out) | exact HB.out))) : w.heap.size ≤ gb131)); have n5_ := Aside0.mk ((by rw [hg]; exact Nat.ne_of_lt (blk_lt (g := gb130) (o := .cells #[.int .i64 a0_0, .int .i64 a0_1] 41 (0, 0)) (by (with_reducible repeat (first | refine blk_drewN ?_ _ | refine blk_drew ?_ | refine blk_alloc ?_ _)); exact BK130.out)) : gb130 ≠ gb131)); have n6_ := Aside0.mk ((by rw [hg]; exact Nat.ne_of_gt (blk_lt (g := gb130) (o := .cells #[.int .i64 a0_0, .int .i64 a0_1] 41 (0, 0)) (by (with_reducible repeat (first | refine blk_drewN ?_ _ | refine blk_drew ?_ | refine blk_alloc ?_ _)); exact BK130.out)) : gb131 ≠ gb130)); clear BK130; clear HB; have BK130 := n0_; have HB := n1_; have BK131 := n2_; have GW131 := n3_; have GE131 := n4_; have NB130_131 := n5_; have NB131_130 := n6_; clear n0_ n1_ n2_ n3_ n4_ n5_ n6_; clear hb hbox hg; have hnb23 := NB130_131.out; have hnc23 := NB131_130.out; have hcz24_0 : w22.cell? ⟨gb130, 0, none⟩ = some (.int .i64 a0_0) := (blk_cell BK130.out 0).trans rfl; have hcz24_1 : w22.cell? ⟨gb130, 1, none⟩ = some (.int .i64 a0_1) := (blk_cell BK130.out 1).trans rfl; have hfz24_0 := blk_frozen BK130.out 0; have hfz24_1 := blk_frozen BK130.out 1; have hcz25_0 : w22.cell? ⟨gb131, 0, none⟩ = some (.int .i64 0) := (blk_cell BK131.out 0).trans rfl; have hcz25_1 : w22.cell? ⟨gb131, 1, none⟩ = some (.int .i64 0) := (blk_cell BK131.out 1).trans rfl; have hfz25_0 := blk_frozen BK131.out 0; have hfz25_1 := blk_frozen BK131.out 1))
        refine bodyPost_ret (results_cell_row rfl _ _ gb131 41 #[.int .i64 (wrap64 (a0_0 - 1)), .int .i64 a0_1] (0, 0) _ rfl (by (with_reducible repeat (first | refine blk_drewN ?_ _ | refine blk_drew ?_ | refine blk_alloc ?_ _)); refine blk_put (cs := #[.int .i64 (wrap64 (a0_0 - 1)), .int .i64 0]) ?_ 1 _ rfl; (with_reducible repeat (first | refine blk_drewN ?_ _ | refine blk_drew ?_ | refine blk_alloc ?_ _)); refine blk_put (cs := #[.int .i64 0, .int .i64 0]) ?_ 0 _ rfl; (with_reducible repeat (first | refine blk_drewN ?_ _ | refine blk_drew ?_ | refine blk_alloc ?_ _)); exact BK131.out) Tryd.underlying41 rfl (by kernel_rfl)) rfl ?_
        exact ⟨by first | rfl | (simp [errW_none, errW_some] <;> rfl) | (simp [*, errW_none, errW_some] <;> rfl), by repeat (first | (with_reducible first | exact HB.out | apply below_alloc | apply pw_below_drewN | apply below_drew1 | refine below_set ?_ GE130.out | refine below_set ?_ GE131.out) | exact HB.out)⟩

end Go.Proofs.YtbnkdfmomcmmaaaDoor.P


namespace Go.Proofs.YtbnkdfmomcmmaaaDoor.P
open Go.RowKit Go.Proofs.YtbnkdfmomcmmaaaDoorW.PrintWords Go.Proofs.YtbnkdfmomcmmaaaDoorW.PrintLast Go.Proofs.YtbnkdfmomcmmaaaDoorW.PrintMore
attribute [local go_sem] max2_int min2_int max_two min_two max_three min_three max_four min_four   -- for this text's walks alone
set_option linter.unusedVariables false
set_option linter.unusedSimpArgs false

theorem blk_keep {W w1 : World} {g : Nat} {o : Obj} (h : W.heap[g]? = some o) (hb : Below W.heap.size W w1) : w1.heap[g]? = some o :=
  (hb.block g (Array.getElem?_eq_some_iff.1 h).1).trans h
end Go.Proofs.YtbnkdfmomcmmaaaDoor.P


namespace Go.Proofs.YtbnkdfmomcmmaaaDoor.P
open Go.RowKit Go.Proofs.YtbnkdfmomcmmaaaDoorW.PrintWords Go.Proofs.YtbnkdfmomcmmaaaDoorW.PrintLast Go.Proofs.YtbnkdfmomcmmaaaDoorW.PrintMore
attribute [local go_sem] max2_int min2_int max_two min_two max_three min_three max_four min_four   -- for this text's walks alone
set_option linter.unusedVariables false
set_option linter.unusedSimpArgs false

def nextC (c : S41) (b : Int) : S41 := match impl_Corner_next.f c.f0 c.f1 b with
  | some (x, y) => ⟨x, y⟩
  | none => ⟨0, 0⟩
def walkFrom (c : S41) : List UInt8 → List S41
  | [] => []
  | b :: t => nextC c (b.toNat : Int) :: walkFrom (nextC c (b.toNat : Int)) t
def cornersL (l : List UInt8) : List S41 := ⟨0, 0⟩ :: walkFrom ⟨0, 0⟩ l
theorem walkFrom_len : ∀ (l : List UInt8) (c : S41), (walkFrom c l).length = l.length
  | [], _ => rfl
  | b :: t, c => by unfold walkFrom; rw [List.length_cons, walkFrom_len t, List.length_cons]
theorem cornersL_len (l : List UInt8) : (cornersL l).length = l.length + 1 := by unfold cornersL; rw [List.length_cons, walkFrom_len]
theorem walkFrom_snoc : ∀ (l : List UInt8) (c : S41) (b : UInt8), walkFrom c (l ++ [b]) = walkFrom c l ++ [nextC ((c :: walkFrom c l).getD l.length ⟨0, 0⟩) (b.toNat : Int)]
  | [], c, b => by simp [walkFrom]
  | a :: t, c, b => by
    have ih := walkFrom_snoc t (nextC c (a.toNat : Int)) b
    rw [List.cons_append]
    simp only [walkFrom, List.cons_append, List.length_cons, List.getD_cons_succ]
    rw [ih]
theorem cornersL_snoc (l : List UInt8) (b : UInt8) : cornersL (l ++ [b]) = cornersL l ++ [nextC ((cornersL l).getD l.length ⟨0, 0⟩) (b.toNat : Int)] := by
  unfold cornersL
  rw [walkFrom_snoc, List.cons_append]
theorem next_some (c : S41) (b : Int) : impl_Corner_next.f c.f0 c.f1 b = some ((nextC c b).f0, (nextC c b).f1) := by
  have h : ∃ r, impl_Corner_next.f c.f0 c.f1 b = some r := by
    unfold impl_Corner_next.f
    repeat' split
    all_goals exact ⟨_, rfl⟩
  obtain ⟨⟨x, y⟩, h⟩ := h
  unfold nextC
  rw [h]
def inP (S : List (Int × Int)) (c : Int × Int) : Option Value := if c ∈ S then some (.bool true) else none
theorem next_bound (c : S41) (b : Int) (B : Int) (h0 : -B ≤ c.f0 ∧ c.f0 ≤ B) (h1 : -B ≤ c.f1 ∧ c.f1 ≤ B) (hB : B ≤ 100000) : (-(B + 1) ≤ (nextC c b).f0 ∧ (nextC c b).f0 ≤ B + 1) ∧ (-(B + 1) ≤ (nextC c b).f1 ∧ (nextC c b).f1 ≤ B + 1) := by
  have h := next_some c b
  generalize nextC c b = d at h
  unfold impl_Corner_next.f at h
  have e1 : wrap64 (c.f1 - 1) = c.f1 - 1 := by unfold wrap64; omega
  have e2 : wrap64 (c.f0 + 1) = c.f0 + 1 := by unfold wrap64; omega
  have e3 : wrap64 (c.f1 + 1) = c.f1 + 1 := by unfold wrap64; omega
  have e4 : wrap64 (c.f0 - 1) = c.f0 - 1 := by unfold wrap64; omega
  rw [e1, e2, e3, e4] at h
  clear e1 e2 e3 e4
  repeat' split at h
  all_goals (simp only [Option.some.injEq, Prod.mk.injEq] at h; omega)
theorem walkFrom_bound : ∀ (l : List UInt8) (c : S41) (B : Int), (-B ≤ c.f0 ∧ c.f0 ≤ B) → (-B ≤ c.f1 ∧ c.f1 ≤ B) → B + l.length ≤ 100000 → ∀ d ∈ walkFrom c l, (-(B + l.length) ≤ d.f0 ∧ d.f0 ≤ B + l.length) ∧ (-(B + l.length) ≤ d.f1 ∧ d.f1 ≤ B + l.length)
  | [], c, B, _, _, _, d, hd => by cases hd
  | b :: t, c, B, h0, h1, hB, d, hd => by
    simp only [walkFrom, List.mem_cons, List.length_cons] at hd hB ⊢
    obtain ⟨q0, q1⟩ := next_bound c (b.toNat : Int) B h0 h1 (by omega)
    rcases hd with rfl | hd
    · omega
    · have := walkFrom_bound t (nextC c (b.toNat : Int)) (B + 1) q0 q1 (by omega) d hd
      omega
theorem cornersL_bound (l : List UInt8) (hl : l.length ≤ 1000) : ∀ d ∈ cornersL l, (-1000 ≤ d.f0 ∧ d.f0 ≤ 1000) ∧ (-1000 ≤ d.f1 ∧ d.f1 ≤ 1000) := fun d hd => by
  unfold cornersL at hd
  rcases List.mem_cons.1 hd with rfl | hd
  · simp
  · have := walkFrom_bound l ⟨0, 0⟩ 0 (by simp) (by simp) (by omega) d hd
    omega
theorem rd_ofNat (l : List Int) (k : Nat) (h : k < l.length) : rd l (k : Int) = l[k] := by
  unfold rd; rw [Int.toNat_natCast, List.getD_eq_getElem?_getD, List.getElem?_eq_getElem h]; rfl
theorem R_oneC (w : World) (c : S41) : Kd.R k41 41 (w.alloc (.cells #[.int .i64 c.f0, .int .i64 c.f1] 41)) w.heap.size (fun k => k ≠ w.heap.size + 1) (.slice (some ⟨w.heap.size, 0, none⟩) 1 1) [c] := by
  refine ⟨fun k hk => ?_, [.int .i64 c.f0, .int .i64 c.f1], ?_, ?_⟩
  · simp [Value.ownBlock] at hk
    omega
  · have h := World.ownsRow_lit (base := w.heap.size) (e := 41) (size := 2) w #[.int .i64 c.f0, .int .i64 c.f1] 1 (Nat.le_refl _) (by simp [maxLen]) (by simp)
    have h2 : (w.alloc (.cells #[.int .i64 c.f0, .int .i64 c.f1] 41)).ownsRow w.heap.size 41 2 (.slice (some ⟨w.heap.size, 0, none⟩) 1 1) 1 [.int .i64 c.f0, .int .i64 c.f1] := by simpa using h
    exact h2
  · refine ⟨rfl, fun j p hj => ?_⟩
    obtain ⟨hjl, hp⟩ := List.getElem?_eq_some_iff.1 hj
    have hj0 : j = 0 := by simp at hjl; omega
    subst hj0
    have hpc : p = c := by simpa using hp.symm
    subst hpc
    exact k41_mkM _ _ _ p
theorem mkBytes {W : World} {g : Nat} {s : ByteArray} {cc : Nat} {fr : Nat × Nat} (h4 : W.heap[g]? = some (.cells (bytesRow s cc) 5 fr)) (hs2 : s.size ≤ 1000) : Kd.C (Kd.int .u8) W (some ⟨g, 0, none⟩) s.size (s.data.toList.map fun b => (b.toNat : Int)) := by
  refine Kd.C_of_reads (d := (0 : Int)) (h1 := fun _ => rfl) ⟨by rw [List.length_map]; rfl, by omega, fun _ => ⟨_, rfl, fun j hj => ?_⟩⟩
  have hj2 : j < s.data.size := by simpa using hj
  have hat := bytesRow_at s cc j hj2
  rw [add_plain]
  simp only [World.cell?, h4]
  simp [hat, hj2, List.getD_eq_getElem?_getD, Array.getElem?_eq_getElem hj2]
set_option maxRecDepth 100000 in
set_option maxHeartbeats 8000000 in
theorem walk_any (s : ByteArray) (hs : s.size ≤ 1000) (w : World) :
    Calls Tryd.prog 30 #[.string s] w fun e w' => ∃ v, e = .returned v ∧ Kd.R k41 41 w' w.heap.size (fun _ => True) v (cornersL s.data.toList) ∧ Below w.heap.size w w' := by
  have hconv := fun W : World => run_bytes_of_string (P := Tryd.prog) W 9 57 5 s Tryd.underlying9 Tryd.underlying57 Tryd.underlying5
  have hn : s.size ≤ 1000 := hs
  clear hs
  go_enter Tryd.func30, Tryd.ntmps30
  go_wp2_with fail
  have R0 := Aside0.mk (R_oneC w (⟨0, 0⟩ : S41))
  generalize grownCap (w.alloc (.cells #[.int .i64 0, .int .i64 0] 41)) s.size 0 5 = cc
  have BY0 : Aside0 ((((w.alloc (.cells #[.int .i64 0, .int .i64 0] 41)).alloc (.cells (bytesRow s cc) 5 ((bytesRow s cc).size, (bytesRow s cc).size + 1))).drew).heap[w.heap.size + 1]? = some (.cells (bytesRow s cc) 5 ((bytesRow s cc).size, (bytesRow s cc).size + 1))) := ⟨by
    have h := heap_alloc_new (w.alloc (.cells #[.int .i64 0, .int .i64 0] 41)) (.cells (bytesRow s cc) 5 ((bytesRow s cc).size, (bytesRow s cc).size + 1))
    have e : (w.alloc (.cells #[.int .i64 0, .int .i64 0] 41)).heap.size = w.heap.size + 1 := by simp
    rw [e] at h
    exact h⟩
  generalize hW : ((w.alloc (.cells #[.int .i64 0, .int .i64 0] 41)).alloc (.cells (bytesRow s cc) 5 ((bytesRow s cc).size, (bytesRow s cc).size + 1))).drew = W1 at BY0 ⊢
  have BW0 : Aside0 (Below w.heap.size w W1) := ⟨by rw [← hW]; exact below_drew (below_alloc (below_alloc (Below.refl _ _) _) _)⟩
  have RW0 : Aside0 (Kd.R k41 41 W1 w.heap.size (fun k => k ≠ w.heap.size + 1) (.slice (some ⟨w.heap.size, 0, none⟩) 1 1) (cornersL (s.data.toList.take 0))) := ⟨by rw [← hW]; exact Kd.R_drew (Kd.R_alloc R0.out _)⟩
  clear hW R0 hconv
  go_loopg [3, 5, 11] s.size (fun gg u3 _ u11 wr => ∃ i : Nat, i ≤ s.size ∧ s.size - i ≤ gg ∧ u11 = .int .i64 i ∧ Aside0 (Kd.R k41 41 wr w.heap.size (fun k => k ≠ w.heap.size + 1) u3 (cornersL (s.data.toList.take i))) ∧ Aside0 (Below w.heap.size w wr) ∧ Aside0 (wr.heap[w.heap.size + 1]? = some (.cells (bytesRow s cc) 5 ((bytesRow s cc).size, (bytesRow s cc).size + 1))))
  case atStart => exact ⟨0, Nat.zero_le _, by omega, rfl, RW0, BW0, BY0⟩
  case round =>
    clear RW0 BW0 BY0
    obtain ⟨i, hi, hgg, rfl, HO, HB, HY⟩ := hrel
    have hsz : s.data.toList.length = s.size := by simp
    obtain ⟨A, c, rfl⟩ := Kd.R_slice HO.out
    have hlen : (cornersL (s.data.toList.take i)).length = i + 1 := by rw [cornersL_len, List.length_take, hsz]; omega
    by_cases hlt : i < s.size
    · have hltz : (i : Int) < (s.size : Int) := by omega
      have hil : i < s.data.toList.length := by omega
      obtain ⟨ad, eA, hx⟩ := Kd.at_int (mkBytes HY.out hn) (i : Int) (by omega) (by omega)
      cases eA
      have HO2 : Aside0 (Kd.R k41 41 wr w.heap.size (fun k => k ≠ w.heap.size + 1) (.slice A (i + 1) c) (cornersL (s.data.toList.take i))) := ⟨by have h := HO.out; rw [hlen] at h; exact h⟩
      obtain ⟨ad2, eA2, hy1, hy2⟩ := at_T41 (Kd.R_reads' HO2.out).2.2 (i : Int) (by omega) (by rw [hlen]; omega)
      subst eA2
      rw [hlen]
      have hrd : rd (s.data.toList.map fun b => (b.toNat : Int)) (i : Int) = (((s.data.toList[i]'hil).toNat : Nat) : Int) := by
        rw [rd_ofNat _ _ (by rw [List.length_map]; exact hil), List.getElem_map]
      have htake : s.data.toList.take (i + 1) = s.data.toList.take i ++ [s.data.toList[i]'hil] := List.take_succ_eq_append_getElem hil
      have hcs := cornersL_snoc (s.data.toList.take i) (s.data.toList[i]'hil)
      rw [← htake, List.length_take, hsz, Nat.min_eq_left hi] at hcs
      have hrc : rd_T41 (cornersL (s.data.toList.take i)) (i : Int) = (cornersL (s.data.toList.take i)).getD i ⟨0, 0⟩ := by unfold rd_T41; rw [Int.toNat_natCast]; rfl
      rw [hrd] at hx
      rw [hrc, Int.toNat_natCast] at hy1 hy2
      rw [Int.toNat_natCast, add_plain] at hx
      have HCS := Aside0.mk hcs
      clear hcs hrd hrc htake HO hlen
      generalize (s.data.toList[i]'hil).toNat = b at hx HCS
      generalize hce : (cornersL (s.data.toList.take i)).getD i ⟨0, 0⟩ = ce at hy1 hy2 HCS
      clear hce
      have HN := Aside0.mk (next_some ce (b : Int))
      generalize nextC ce (b : Int) = nx at HN HCS
      generalize cornersL (s.data.toList.take i) = xs at HO2 HCS
      have e1 : IntKind.i64.wrap (((i + 1 : Nat) : Int) - 1) = (i : Int) := by rw [IntKind.wrap_i64]; omega
      have HL : Aside0 (xs.length = i + 1) := ⟨(Kd.R_reads' HO2.out).1.symm⟩
      go_wp2_with (first
        | (go_at_call 46; refine (impl_Corner_next.calls ce.f0 ce.f1 (b : Int) nx.f0 nx.f1 _ HN.out).mono ?_; rintro e wn ⟨rfl, hb⟩; have HO3 := Aside0.mk (Kd.R_below HO2.out hb); have HB3 := Aside0.mk (below_step HB.out hb); have HY3 := Aside0.mk (blk_keep HY.out hb); clear hb)
        | (at_builtin; refine Kd.R_append k41 (w0 := w) w.heap.size rfl (.tmp 15) (.tmp 24) 29 41 (.agg #[(.int .i64 0), (.int .i64 0)]) 16 rfl Tryd.underlying29 info41 rfl (by decide) (by omega) (.slice (some ad2) (i + 1) c) xs nx [.int .i64 nx.f0, .int .i64 nx.f1] (fun k => k ≠ w.heap.size + 1) (fun _ => False) rfl rfl ?aP (fun _ hk => hk.elim) ?aF ?aO ?aB ?aS ?aL ?_; (case aP => exact k41_mkM _ _ _ nx); (case aF => exact fun k hk => by have h_ := (Array.getElem?_eq_some_iff.1 HY3.out).1; omega); (case aO => exact HO3.out); (case aB => exact HB3.out); (case aS => exact HB3.out.size); (case aL => have h_ := HL.out; rw [h_]; omega); intro v1 w1 ho hb hg hat; have HO4 := Aside0.mk ho; have HB4 := Aside0.mk hb; have HY4 := Aside0.mk (blk_grown HY3.out hg (Kd.R_away HO3.out (fun _ hk => hk))); clear ho hb hg hat))
      rw [← HCS.out] at HO4
      go_roundg (s.size - (i + 1))
      case measure => omega
      case rel => exact ⟨i + 1, by omega, by omega, by go_num, HO4, HB4, HY4⟩
    · have hltz : ¬ (i : Int) < (s.size : Int) := by omega
      have hie : i = s.size := by omega
      subst hie
      have hall : s.data.toList.take s.size = s.data.toList := by rw [← hsz, List.take_length]
      rw [hall] at HO ⊢
      go_wp2_with fail
      go_ret
      exact ⟨_, rfl, Kd.R_mono HO.out (fun _ _ => trivial), HB.out⟩
def impl_walk.f (a0 : ByteArray) : Option (List S41) := if a0.size ≤ 1000 then some (cornersL a0.data.toList) else none
theorem impl_walk.calls (a0 : ByteArray) (r : List S41) (w : World) (h : impl_walk.f a0 = some r) :
    Calls Tryd.prog 30 #[.string a0] w fun e w' => ∃ v0_ : Value, e = .returned v0_ ∧ Kd.R k41 41 w' w.heap.size (fun _ => True) v0_ r ∧ Below w.heap.size w w' := by
  unfold impl_walk.f at h
  split at h
  · rename_i h0
    obtain rfl := Option.some.inj h
    exact walk_any a0 h0 w
  · cases h

end Go.Proofs.YtbnkdfmomcmmaaaDoor.P


namespace Go.Proofs.YtbnkdfmomcmmaaaDoor.P
open Go.RowKit Go.Proofs.YtbnkdfmomcmmaaaDoorW.PrintWords Go.Proofs.YtbnkdfmomcmmaaaDoorW.PrintLast Go.Proofs.YtbnkdfmomcmmaaaDoorW.PrintMore
attribute [local go_sem] max2_int min2_int max_two min_two max_three min_three max_four min_four   -- for this text's walks alone
set_option linter.unusedVariables false
set_option linter.unusedSimpArgs false

def pairC (c : S41) : Int × Int := (c.f0, c.f1)
def stepBW (b : UInt8) : Bool := b == 110 || b == 101 || b == 115 || b == 119
def dirN (b : Int) : Int := if b = 110 then 0 else if b = 101 then 1 else if b = 115 then 2 else if b = 119 then 3 else -1
theorem loDir_f (b : Int) (k : Nat) (hk : 10 < k) : spec_loDir.f k b = some (dirN b) := by
  obtain ⟨k, rfl⟩ : ∃ q, k = q + 5 := ⟨k - 5, by omega⟩
  have w0 : wrap64 (0 + 1) = 1 := by unfold wrap64; omega
  have w1 : wrap64 (1 + 1) = 2 := by unfold wrap64; omega
  have w2 : wrap64 (2 + 1) = 3 := by unfold wrap64; omega
  have w3 : wrap64 (3 + 1) = 4 := by unfold wrap64; omega
  have hs : ((⟨#[110, 101, 115, 119]⟩ : ByteArray).size : Int) = 4 := rfl
  have b0 : bt (⟨#[110, 101, 115, 119]⟩ : ByteArray) 0 = 110 := by decide
  have b1 : bt (⟨#[110, 101, 115, 119]⟩ : ByteArray) 1 = 101 := by decide
  have b2 : bt (⟨#[110, 101, 115, 119]⟩ : ByteArray) 2 = 115 := by decide
  have b3 : bt (⟨#[110, 101, 115, 119]⟩ : ByteArray) 3 = 119 := by decide
  unfold spec_loDir.f dirN
  simp only [spec_loDir.l0, spec_liDirs.f, Option.bind_some, w0, w1, w2, w3, hs, b0, b1, b2, b3]
  by_cases h0 : b = 110
  · subst h0; simp
  · by_cases h1 : b = 101
    · subst h1; simp
    · by_cases h2 : b = 115
      · subst h2; simp
      · by_cases h3 : b = 119
        · subst h3; simp
        · simp [h0, h1, h2, h3, Ne.symm h0, Ne.symm h1, Ne.symm h2, Ne.symm h3]
theorem byte_eq (b c : UInt8) : ((b.toNat : Int) = (c.toNat : Int)) ↔ b = c := ⟨fun h => UInt8.toNat_inj.1 (by exact_mod_cast h), fun h => by rw [h]⟩
theorem dir_step (b : UInt8) : stepBW b = true ↔ ¬ dirN (b.toNat : Int) < 0 := by
  have h0 : ((b.toNat : Int) = 110) ↔ b = 110 := byte_eq b 110
  have h1 : ((b.toNat : Int) = 101) ↔ b = 101 := byte_eq b 101
  have h2 : ((b.toNat : Int) = 115) ↔ b = 115 := byte_eq b 115
  have h3 : ((b.toNat : Int) = 119) ↔ b = 119 := byte_eq b 119
  unfold stepBW dirN
  simp only [h0, h1, h2, h3, Bool.or_eq_true, beq_iff_eq]
  by_cases q0 : b = 110
  · simp [q0]
  · by_cases q1 : b = 101
    · simp [q1]
    · by_cases q2 : b = 115
      · simp [q2]
      · by_cases q3 : b = 119
        · simp [q3]
        · simp [q0, q1, q2, q3]
theorem loStepW_f (x y : Int) (b : UInt8) (hb : stepBW b = true) (hx : -1000 ≤ x ∧ x ≤ 1000) (hy : -1000 ≤ y ∧ y ≤ 1000) : spec_loStep.f x y (dirN (b.toNat : Int)) = some ((nextC ⟨x, y⟩ (b.toNat : Int)).f0, (nextC ⟨x, y⟩ (b.toNat : Int)).f1) := by
  have r0 : rd ([0, 1, 0, -1] : List Int) 0 = 0 := rfl
  have r1 : rd ([0, 1, 0, -1] : List Int) 1 = 1 := rfl
  have r2 : rd ([0, 1, 0, -1] : List Int) 2 = 0 := rfl
  have r3 : rd ([0, 1, 0, -1] : List Int) 3 = -1 := rfl
  have q0 : rd ([-1, 0, 1, 0] : List Int) 0 = -1 := rfl
  have q1 : rd ([-1, 0, 1, 0] : List Int) 1 = 0 := rfl
  have q2 : rd ([-1, 0, 1, 0] : List Int) 2 = 1 := rfl
  have q3 : rd ([-1, 0, 1, 0] : List Int) 3 = 0 := rfl
  have e0 : wrap64 x = x := by unfold wrap64; omega
  have e1 : wrap64 (x + 1) = x + 1 := by unfold wrap64; omega
  have e2 : wrap64 (x + -1) = x - 1 := by unfold wrap64; omega
  have e3 : wrap64 (x - 1) = x - 1 := by unfold wrap64; omega
  have f0 : wrap64 y = y := by unfold wrap64; omega
  have f1 : wrap64 (y + 1) = y + 1 := by unfold wrap64; omega
  have f2 : wrap64 (y + -1) = y - 1 := by unfold wrap64; omega
  have f3 : wrap64 (y - 1) = y - 1 := by unfold wrap64; omega
  unfold nextC impl_Corner_next.f spec_loStep.f
  unfold stepBW at hb
  simp only [Bool.or_eq_true, beq_iff_eq] at hb
  rcases hb with ((rfl | rfl) | rfl) | rfl
  · have hd : dirN ((110 : UInt8).toNat : Int) = 0 := by decide
    rw [hd]
    simp [r0, q0, e0, f2, f3]
  · have hd : dirN ((101 : UInt8).toNat : Int) = 1 := by decide
    rw [hd]
    simp [r1, q1, e1, f0]
  · have hd : dirN ((115 : UInt8).toNat : Int) = 2 := by decide
    rw [hd]
    simp [r2, q2, e0, f1]
  · have hd : dirN ((119 : UInt8).toNat : Int) = 3 := by decide
    rw [hd]
    simp [r3, q3, e2, e3, f0]
theorem liHas_l0 (l : List S41) (x y : Int) (hl : l.length ≤ 1000) : ∀ (d k i : Nat), l.length - i = d → i ≤ l.length → d < k → spec_liHas.l0 k l (l.length : Int) (i : Int) x y = some (decide ((x, y) ∈ (l.drop i).map pairC)) := by
  intro d
  induction d with
  | zero =>
    intro k i h1 h2 h3
    obtain ⟨k, rfl⟩ : ∃ q, k = q + 1 := ⟨k - 1, by omega⟩
    simp only [spec_liHas.l0]
    rw [if_neg (by omega), List.drop_of_length_le (by omega)]
    rfl
  | succ d ih =>
    intro k i h1 h2 h3
    obtain ⟨k, rfl⟩ : ∃ q, k = q + 1 := ⟨k - 1, by omega⟩
    have hi : i < l.length := by omega
    have e1 : wrap64 ((i : Int) + 1) = ((i + 1 : Nat) : Int) := by unfold wrap64; omega
    have hrd : rd_T41 l (i : Int) = l[i] := by unfold rd_T41; rw [Int.toNat_natCast, List.getD_eq_getElem?_getD, List.getElem?_eq_getElem hi]; rfl
    simp only [spec_liHas.l0]
    rw [if_pos (by omega), if_pos (by omega), if_pos (by omega), hrd, e1, ih k (i + 1) (by omega) (by omega) (by omega), List.drop_eq_getElem_cons hi, List.map_cons]
    by_cases hq : (l[i].f0 == x && (l[i].f1 == y)) = true
    · rw [if_pos hq]
      rw [Bool.and_eq_true, beq_iff_eq, beq_iff_eq] at hq
      have : (x, y) = pairC l[i] := by unfold pairC; rw [hq.1, hq.2]
      rw [this]
      simp
    · rw [if_neg hq]
      have : ¬ (x, y) = pairC l[i] := fun h => hq (by
        unfold pairC at h
        rw [Prod.mk.injEq] at h
        rw [← h.1, ← h.2]; simp)
      congr 1
      rw [decide_eq_decide, List.mem_cons]
      exact ⟨fun h => .inr h, fun h => h.resolve_left this⟩
theorem liHas_f (l : List S41) (x y : Int) (hl : l.length ≤ 1000) (k : Nat) (hk : l.length < k) : spec_liHas.f k l x y = some (decide ((x, y) ∈ l.map pairC)) := by
  unfold spec_liHas.f
  have := liHas_l0 l x y hl l.length k 0 (by omega) (by omega) hk
  rw [List.drop_zero] at this
  exact this
theorem walk_at : ∀ (l : List UInt8) (c : S41) (i : Nat) (hi : i < l.length), (c :: walkFrom c l).getD (i + 1) ⟨0, 0⟩ = nextC ((c :: walkFrom c l).getD i ⟨0, 0⟩) ((l[i].toNat : Nat) : Int)
  | [], _, _, hi => absurd hi (by simp)
  | b :: t, c, 0, _ => rfl
  | b :: t, c, i + 1, hi => by
    have ih := walk_at t (nextC c (b.toNat : Int)) i (by simp at hi; omega)
    simp only [walkFrom, List.getD_cons_succ, List.getElem_cons_succ] at ih ⊢
    exact ih
theorem take_getD (l : List S41) (k i : Nat) (h : i < k) : (l.take k).getD i ⟨0, 0⟩ = l.getD i ⟨0, 0⟩ := by
  rw [List.getD_eq_getElem?_getD, List.getD_eq_getElem?_getD, List.getElem?_take, if_pos h]
structure LoopW (s : ByteArray) : Prop where
  n4 : 4 ≤ s.size
  n40 : s.size ≤ 40
  st : ∀ b ∈ s.data.toList, stepBW b = true
  cl : (cornersL s.data.toList).getD s.size ⟨0, 0⟩ = ⟨0, 0⟩
  inj : ∀ i j, i < j → j < s.size → pairC ((cornersL s.data.toList).getD i ⟨0, 0⟩) ≠ pairC ((cornersL s.data.toList).getD j ⟨0, 0⟩)

end Go.Proofs.YtbnkdfmomcmmaaaDoor.P


namespace Go.Proofs.YtbnkdfmomcmmaaaDoor.P
open Go.RowKit Go.Proofs.YtbnkdfmomcmmaaaDoorW.PrintWords Go.Proofs.YtbnkdfmomcmmaaaDoorW.PrintLast Go.Proofs.YtbnkdfmomcmmaaaDoorW.PrintMore
attribute [local go_sem] max2_int min2_int max_two min_two max_three min_three max_four min_four   -- for this text's walks alone
set_option linter.unusedVariables false
set_option linter.unusedSimpArgs false

section
open Go.Maps
def heldR (v : Value) : Option (DataW Value × List MemPlace) := some (.held v, [])
def MapIs {κ : Type} (w : World) (P : Program) (k b m : Nat) (en : κ → Value) (f : κ → Option Value) : Prop :=
  ∃ D : DataW Value, w.ownsMap P k heldR b m D ∧ Maps.size D = m ∧ ∀ c kl, keyOf P k (en c) = some kl → Maps.has D kl = (f c).isSome ∧ ∀ z, D.atKey kl (.held z) = .held ((f c).getD z)
section
variable {κ : Type} {w w1 : World} {P : Program} {k b m : Nat} {en : κ → Value} {f : κ → Option Value}
theorem MapIs.made (w : World) (P : Program) (k : Nat) (en : κ → Value) : MapIs (w.alloc (.map #[] 0)) P k w.heap.size 0 en (fun _ => none) :=
  ⟨.map [], World.ownsMap_made w P k heldR, rfl, fun c kl _ => ⟨rfl, fun z => rfl⟩⟩
theorem MapIs.lt (h : MapIs w P k b m en f) : b < w.heap.size := by
  obtain ⟨D, h, _⟩ := h
  exact h.lt
theorem MapIs.move (h : MapIs w P k b m en f) (hm : w1.heap[b]? = w.heap[b]?) : MapIs w1 P k b m en f := by
  obtain ⟨D, ⟨es, clock, hb, F, hs, hD⟩, h2⟩ := h
  exact ⟨D, ⟨es, clock, hm.trans hb, F, hs, hD⟩, h2⟩
theorem MapIs.below (h : MapIs w P k b m en f) (hb : Below w.heap.size w w1) : MapIs w1 P k b m en f := h.move (hb.block b h.lt)
theorem MapIs.alloc (h : MapIs w P k b m en f) (o : Obj) : MapIs (w.alloc o) P k b m en f := h.below ((Below.refl _ _).alloc (Nat.le_refl _) o)
theorem MapIs.congr (h : MapIs w P k b m en f) {g : κ → Option Value} (hg : ∀ c kl, keyOf P k (en c) = some kl → g c = f c) : MapIs w P k b m en g := by
  obtain ⟨D, h1, h2, h3⟩ := h
  exact ⟨D, h1, h2, fun c kl hk => by rw [hg c kl hk]; exact h3 c kl hk⟩
theorem MapIs.look (h : MapIs w P k b m en f) (K : Keyed P k) {t e : TypeId} (ht : P.underlying t = some (.map k e)) {z : Value} (hz : (zeroValue e).run P w = .ok z w) {c : κ} {kl : Lit} (hkey : keyOf P k (en c) = some kl) :
    (Instr.lookup t (.map (some b)) (en c) false).run P w = .ok ((f c).getD z) w := by
  obtain ⟨D, h1, _, h3⟩ := h
  obtain ⟨v, ps, hrun, hv⟩ := h1.lookup K ht hz (zd := .held z) (zp := []) rfl hkey
  rw [(h3 c kl hkey).2] at hv
  simp only [heldR, Option.some.injEq, Prod.mk.injEq, DataW.held.injEq] at hv
  rw [hrun, hv.1]
theorem MapIs.len (h : MapIs w P k b m en f) {t e : TypeId} (ht : P.underlying t = some (.map k e)) (ty : TypeId) : (Builtin.len_ #[t] ty #[.map (some b)]).run P w = .ok (.int .i64 m) w := by
  obtain ⟨D, h1, h2, _⟩ := h
  rw [h1.len ht ty, h2]
theorem MapIs.store [DecidableEq κ] (h : MapIs w P k b m en f) (K : Keyed P k) {t e : TypeId} (ht : P.underlying t = some (.map k e)) (hn : m < maxLen) (hinj : ∀ a c, en a = en c → a = c) {c : κ} {kl : Lit} (hkey : keyOf P k (en c) = some kl) (v : Value) :
    ∃ w', (Instr.mapUpdate t (.map (some b)) (en c) v).run P w = .ok () w' ∧ MapIs w' P k b (if (f c).isSome then m else m + 1) en (fun a => if a = c then some v else f a) ∧ w.mapTurned w' b := by
  obtain ⟨D, h1, h2, h3⟩ := h
  obtain ⟨w', hrun, ho, ht'⟩ := h1.store K ht hn hkey (d := .held v) (ps := []) rfl
  have hsz : Maps.size (D.put kl (.held v)) = if (f c).isSome then m else m + 1 := by
    rw [size_put (h1.tidy K), (h3 c kl hkey).1, h2]
  refine ⟨w', hrun, ⟨D.put kl (.held v), ?_, hsz, fun a la hla => ?_⟩, ht'⟩
  · obtain ⟨es, clock, hb, F, hs, hD⟩ := ho
    refine ⟨es, clock, hb, F, ?_, hD⟩
    have e1 : Maps.size (D.put kl (.held v)) = es.size := by rw [hD]; simp [Maps.size, length_sorted]
    rw [← hsz, e1]
    exact Nat.le_refl _
  · by_cases hac : a = c
    · subst hac
      have : la = kl := Option.some.inj (hla.symm.trans hkey)
      subst this
      simp only [if_true]
      exact ⟨has_put_same h1.isMap (K.key hkey) _, fun z => atKey_put_same h1.isMap (K.key hkey) _ _⟩
    · simp only [if_neg hac]
      have hne : la ≠ kl := fun e => hac (hinj _ _ (K.inj (e ▸ hla) hkey))
      exact ⟨(has_put_other hne _).trans (h3 a la hla).1, fun z => (atKey_put_other hne _ _).trans ((h3 a la hla).2 z)⟩
theorem MapIs.drop [DecidableEq κ] (h : MapIs w P k b m en f) (K : Keyed P k) {t e : TypeId} (ht : P.underlying t = some (.map k e)) (hinj : ∀ a c, en a = en c → a = c) {c : κ} {kl : Lit} (hkey : keyOf P k (en c) = some kl) (ty : TypeId) :
    ∃ w', (Builtin.delete_ #[t, k] ty #[.map (some b), en c]).run P w = .ok (.tuple #[]) w' ∧ MapIs w' P k b (if (f c).isSome then m - 1 else m) en (fun a => if a = c then none else f a) ∧ w.mapTurned w' b := by
  obtain ⟨D, h1, h2, h3⟩ := h
  obtain ⟨w', hrun, ho, ht'⟩ := h1.drop K ht hkey ty
  have hsz : Maps.size (D.del kl) = if (f c).isSome then m - 1 else m := by
    have := size_del (k := kl) (h1.tidy K)
    rw [(h3 c kl hkey).1, h2] at this
    split at this <;> rename_i hx <;> simp [hx] <;> omega
  refine ⟨w', hrun, ⟨D.del kl, ?_, hsz, fun a la hla => ?_⟩, ht'⟩
  · obtain ⟨es, clock, hb, F, hs, hD⟩ := ho
    refine ⟨es, clock, hb, F, ?_, hD⟩
    have e1 : Maps.size (D.del kl) = es.size := by rw [hD]; simp [Maps.size, length_sorted]
    rw [← hsz, e1]
    exact Nat.le_refl _
  · by_cases hac : a = c
    · subst hac
      have : la = kl := Option.some.inj (hla.symm.trans hkey)
      subst this
      simp only [if_true]
      exact ⟨has_del_same, fun z => atKey_del_same _⟩
    · simp only [if_neg hac]
      have hne : la ≠ kl := fun e => hac (hinj _ _ (K.inj (e ▸ hla) hkey))
      exact ⟨(has_del_other hne).trans (h3 a la hla).1, fun z => (atKey_del_other hne _).trans ((h3 a la hla).2 z)⟩
end
end

end Go.Proofs.YtbnkdfmomcmmaaaDoor.P


namespace Go.Proofs.YtbnkdfmomcmmaaaDoor.P
open Go.RowKit Go.Proofs.YtbnkdfmomcmmaaaDoorW.PrintWords Go.Proofs.YtbnkdfmomcmmaaaDoorW.PrintLast Go.Proofs.YtbnkdfmomcmmaaaDoorW.PrintMore
attribute [local go_sem] max2_int min2_int max_two min_two max_three min_three max_four min_four   -- for this text's walks alone
set_option linter.unusedVariables false
set_option linter.unusedSimpArgs false

section
open Go.Maps
theorem mapc_laid : laidOutB Tryd.prog = true := by kernel_rfl
theorem cornKeyed : Keyed Tryd.prog 41 := Keyed.of_law (deep_law_laid mapc_laid (m := 2) (by omega) (of_decide_eq_true (by kernel_rfl)) (by kernel_rfl) (by rw [Tryd.underlying41]))
def cornV (c : Int × Int) : Value := .agg #[.int .i64 c.1, .int .i64 c.2]
theorem cornV_inj (a c : Int × Int) (h : cornV a = cornV c) : a = c := by
  unfold cornV at h
  simp at h
  exact Prod.ext h.1 h.2
theorem cornKey (x y : Int) (hx : (Lit.int .i64 x).wf = true) (hy : (Lit.int .i64 y).wf = true) : keyOf Tryd.prog 41 (cornV (x, y)) = some (.string (keyBytes [.int .i64 x, .int .i64 y])) := by
  have h1 : Tryd.prog.keyType 41 = true := by kernel_rfl
  obtain ⟨m, hm⟩ : ∃ m, Tryd.prog.types.size = m + 1 := ⟨Tryd.prog.types.size.pred, by kernel_rfl⟩
  have h4 : Tryd.prog.cellsOf 41 = 2 := by kernel_rfl
  have h5 : Tryd.prog.cellsOf 3 = 1 := by kernel_rfl
  unfold cornV
  have hf : (Value.agg #[.int .i64 x, .int .i64 y]).formed Tryd.prog 41 = true := by
    simp [Value.formed, Tryd.underlying41, h4]
  have hl : Tryd.prog.keyLits (Tryd.prog.types.size + 1) 41 (Value.agg #[.int .i64 x, .int .i64 y]).cells.toList = some [.int .i64 x, .int .i64 y] := by
    rw [hm]
    simp [Program.keyLits, Tryd.underlying41, Tryd.underlying3, h4, h5, Value.cells, hx, hy]
  simp only [keyOf, Tryd.underlying41, h1, hf, hl]
  rfl
theorem i64_wf (x : Int) (h0 : -1000000 ≤ x) (h1 : x ≤ 1000000) : (Lit.int .i64 x).wf = true := WalkArith.wf_i64 (by omega)
end

end Go.Proofs.YtbnkdfmomcmmaaaDoor.P


namespace Go.Proofs.YtbnkdfmomcmmaaaDoor.P
open Go.RowKit Go.Proofs.YtbnkdfmomcmmaaaDoorW.PrintWords Go.Proofs.YtbnkdfmomcmmaaaDoorW.PrintLast Go.Proofs.YtbnkdfmomcmmaaaDoorW.PrintMore
attribute [local go_sem] max2_int min2_int max_two min_two max_three min_three max_four min_four   -- for this text's walks alone
set_option linter.unusedVariables false
set_option linter.unusedSimpArgs false

structure Ring (X Y : Nat → Int) (n : Nat) : Prop where
  n4 : 4 ≤ n
  clX : X n = X 0
  clY : Y n = Y 0
  st : ∀ i, i < n → (X (i + 1) = X i ∧ (Y (i + 1) = Y i + 1 ∨ Y (i + 1) = Y i - 1)) ∨ (Y (i + 1) = Y i ∧ (X (i + 1) = X i + 1 ∨ X (i + 1) = X i - 1))
  inj : ∀ i j, i < j → j < n → X i = X j → Y i = Y j → False
def minI (a b : Int) : Int := if b < a then b else a
def vE (X Y : Nat → Int) (i : Nat) (y : Int) : Bool := decide (X (i + 1) = X i) && decide (minI (Y i) (Y (i + 1)) = y)
def parN (p : Nat → Bool) : Nat → Bool
  | 0 => false
  | i + 1 => xor (parN p i) (p i)
theorem parN_congr {p q : Nat → Bool} : ∀ n, (∀ i, i < n → p i = q i) → parN p n = parN q n
  | 0, _ => rfl
  | n + 1, h => by
    unfold parN
    rw [parN_congr n (fun i hi => h i (by omega)), h n (by omega)]
theorem parN_xor (p q : Nat → Bool) : ∀ n, parN (fun i => xor (p i) (q i)) n = xor (parN p n) (parN q n)
  | 0 => rfl
  | n + 1 => by
    unfold parN
    rw [parN_xor p q n]
    cases parN p n <;> cases parN q n <;> cases p n <;> cases q n <;> rfl
theorem parN_none {p : Nat → Bool} : ∀ n, (∀ i, i < n → p i = false) → parN p n = false
  | 0, _ => rfl
  | n + 1, h => by
    unfold parN
    rw [parN_none n (fun i hi => h i (by omega)), h n (by omega)]
    rfl
theorem parN_one {p : Nat → Bool} : ∀ n, (∀ i j, i < j → j < n → p i = true → p j = true → False) → ((∃ i, i < n ∧ p i = true) ↔ parN p n = true)
  | 0, _ => ⟨fun ⟨i, h, _⟩ => absurd h (by omega), fun h => by cases h⟩
  | n + 1, h => by
    have ih := parN_one n (fun i j a b => h i j a (by omega))
    unfold parN
    cases hp : p n with
    | false =>
      rw [Bool.xor_false, ← ih]
      constructor
      · rintro ⟨i, h1, h2⟩
        refine ⟨i, ?_, h2⟩
        by_cases hi : i = n
        · subst hi; rw [hp] at h2; cases h2
        · omega
      · rintro ⟨i, h1, h2⟩
        exact ⟨i, by omega, h2⟩
    | true =>
      have hz : parN p n = false := parN_none n (fun i hi => by
        cases hc : p i with
        | false => rfl
        | true => exact (h i n hi (by omega) hc hp).elim)
      rw [hz]
      exact ⟨fun _ => rfl, fun _ => ⟨n, by omega, hp⟩⟩
namespace Ring
variable {X Y : Nat → Int} {n : Nat}
theorem prefix_ (R : Ring X Y n) (y : Int) : ∀ k, k ≤ n → parN (fun i => vE X Y i y) k = xor (decide (y < Y 0)) (decide (y < Y k))
  | 0, _ => by simp [parN]
  | k + 1, h => by
    unfold parN
    rw [prefix_ R y k (by omega)]
    have hs := R.st k (by omega)
    have e : vE X Y k y = xor (decide (y < Y k)) (decide (y < Y (k + 1))) := by
      unfold vE minI
      rcases hs with ⟨h1, h2⟩ | ⟨h1, h2⟩
      · rw [decide_eq_true h1, Bool.true_and]
        by_cases a : y < Y k <;> by_cases b : y < Y (k + 1)
        · rw [decide_eq_true a, decide_eq_true b, decide_eq_false (by split <;> omega)]; rfl
        · rw [decide_eq_true a, decide_eq_false b, decide_eq_true (by split <;> omega)]; rfl
        · rw [decide_eq_false a, decide_eq_true b, decide_eq_true (by split <;> omega)]; rfl
        · rw [decide_eq_false a, decide_eq_false b, decide_eq_false (by split <;> omega)]; rfl
      · rw [decide_eq_false (show ¬ X (k + 1) = X k by omega), h1]
        cases decide (y < Y k) <;> rfl
    rw [e]
    cases decide (y < Y 0) <;> cases decide (y < Y k) <;> cases decide (y < Y (k + 1)) <;> rfl
theorem row_even (R : Ring X Y n) (y : Int) : parN (fun i => vE X Y i y) n = false := by
  rw [R.prefix_ y n (Nat.le_refl _), R.clY]
  cases decide (y < Y 0) <;> rfl
theorem inj2 (R : Ring X Y n) {i j : Nat} (hi : i < n) (hj : j < n) (hx : X i = X j) (hy : Y i = Y j) : i = j := by
  rcases Nat.lt_trichotomy i j with h | h | h
  · exact (R.inj i j h hj hx hy).elim
  · exact h
  · exact (R.inj j i h hi hx.symm hy.symm).elim
theorem once (R : Ring X Y n) {i j : Nat} (hij : i < j) (hj : j < n) {y : Int} (h1 : vE X Y i y = true) (h2 : vE X Y j y = true) (hx : X i = X j) : False := by
  unfold vE minI at h1 h2
  rw [Bool.and_eq_true, decide_eq_true_iff, decide_eq_true_iff] at h1 h2
  have n4 := R.n4
  have s1 := R.st i (by omega)
  have s2 := R.st j hj
  have a1 := h1.2
  have a2 := h2.2
  have hne : Y i ≠ Y j := fun e => R.inj i j hij hj hx e
  have e1 : Y i = Y (j + 1) ∧ Y (i + 1) = Y j := by
    split at a1 <;> split at a2 <;> omega
  by_cases hl : j + 1 < n
  · exact R.inj i (j + 1) (by omega) hl (by omega) e1.1
  · have hjn : j + 1 = n := by omega
    rw [hjn, R.clY] at e1
    have hx0 : X i = X 0 := by rw [← R.clX, ← hjn]; omega
    have hi0 : i = 0 := R.inj2 (by omega) (by omega) hx0 e1.1
    subst hi0
    exact R.inj (0 + 1) j (by omega) hj (by omega) e1.2
def ins (X Y : Nat → Int) (n : Nat) (y x : Int) : Bool := parN (fun i => vE X Y i y && decide (X i ≤ x)) n
def atE (X Y : Nat → Int) (n : Nat) (y x : Int) : Bool := parN (fun i => vE X Y i y && decide (X i = x)) n
theorem ins_step (X Y : Nat → Int) (n : Nat) (y x : Int) : ins X Y n y (x + 1) = xor (ins X Y n y x) (atE X Y n y (x + 1)) := by
  unfold ins atE
  rw [← parN_xor]
  refine parN_congr n (fun i _ => ?_)
  cases vE X Y i y
  · rfl
  · rw [Bool.true_and, Bool.true_and, Bool.true_and]
    by_cases h : X i = x + 1
    · rw [decide_eq_true (show X i ≤ x + 1 by omega), decide_eq_false (show ¬ X i ≤ x by omega), decide_eq_true h]; rfl
    · by_cases h2 : X i ≤ x
      · rw [decide_eq_true (show X i ≤ x + 1 by omega), decide_eq_true h2, decide_eq_false h]; rfl
      · rw [decide_eq_false (show ¬ X i ≤ x + 1 by omega), decide_eq_false h2, decide_eq_false h]; rfl
theorem atE_iff (R : Ring X Y n) (y x : Int) : atE X Y n y x = true ↔ ∃ i, i < n ∧ vE X Y i y = true ∧ X i = x := by
  unfold atE
  rw [← parN_one n]
  · constructor
    · rintro ⟨i, h1, h2⟩
      rw [Bool.and_eq_true, decide_eq_true_iff] at h2
      exact ⟨i, h1, h2⟩
    · rintro ⟨i, h1, h2, h3⟩
      exact ⟨i, h1, by rw [h2, decide_eq_true h3]; rfl⟩
  · intro i j h1 h2 h3 h4
    rw [Bool.and_eq_true, decide_eq_true_iff] at h3 h4
    exact R.once h1 h2 h3.1 h4.1 (by omega)
theorem ins_low (y x : Int) (h : ∀ i, i < n → x < X i) : ins X Y n y x = false :=
  parN_none n (fun i hi => by have h2 := h i hi; rw [decide_eq_false (show ¬ X i ≤ x by omega), Bool.and_false])
theorem ins_high (R : Ring X Y n) (y x : Int) (h : ∀ i, i < n → X i ≤ x) : ins X Y n y x = false := by
  rw [← R.row_even y]
  exact parN_congr n (fun i hi => by rw [decide_eq_true (h i hi), Bool.and_true])
theorem ins_below (R : Ring X Y n) (y x : Int) (h : ∀ i, i < n → Y i ≤ y) : ins X Y n y x = false :=
  parN_none n (fun i hi => by
    have h1 := h i hi
    have h2 : Y (i + 1) ≤ y := by
      by_cases e : i + 1 < n
      · exact h _ e
      · have : i + 1 = n := by omega
        rw [this, R.clY]
        exact h 0 (by have := R.n4; omega)
    have s := R.st i hi
    unfold vE minI
    rcases s with ⟨a, b⟩ | ⟨a, b⟩
    · rw [decide_eq_false (show ¬ (if Y (i + 1) < Y i then Y (i + 1) else Y i) = y by split <;> omega), Bool.and_false]; rfl
    · rw [decide_eq_false (show ¬ X (i + 1) = X i by omega)]; rfl)
theorem last_col (R : Ring X Y n) (M : Int) (hM : ∀ i, i < n → X i ≤ M) (hA : ∃ i, i < n ∧ X i = M) : ∃ i y, i < n ∧ vE X Y i y = true ∧ X i = M := by
  obtain ⟨i, hi, hx⟩ := hA
  have n4 := R.n4
  by_cases h1 : X (i + 1) = X i
  · exact ⟨i, minI (Y i) (Y (i + 1)), hi, by unfold vE; rw [decide_eq_true h1, decide_eq_true rfl]; rfl, hx⟩
  · have hn : X (i + 1) ≤ M := by
      by_cases e : i + 1 < n
      · exact hM _ e
      · have : i + 1 = n := by omega
        rw [this, R.clX]; exact hM 0 (by omega)
    have s := R.st i hi
    have e1 : X (i + 1) = M - 1 ∧ Y (i + 1) = Y i := by omega
    obtain ⟨j, hj, hjx, hjy, hji⟩ : ∃ j, j < n ∧ X (j + 1) = X i ∧ Y (j + 1) = Y i ∧ (j + 1 = i ∨ (i = 0 ∧ j + 1 = n)) := by
      by_cases h0 : i = 0
      · subst h0
        refine ⟨n - 1, by omega, ?_, ?_, .inr ⟨rfl, by omega⟩⟩
        · rw [show n - 1 + 1 = n by omega]; exact R.clX
        · rw [show n - 1 + 1 = n by omega]; exact R.clY
      · refine ⟨i - 1, by omega, ?_, ?_, .inl (by omega)⟩ <;> rw [show i - 1 + 1 = i by omega]
    by_cases h2 : X (j + 1) = X j
    · exact ⟨j, minI (Y j) (Y (j + 1)), hj, by unfold vE; rw [decide_eq_true h2, decide_eq_true rfl]; rfl, by omega⟩
    · exfalso
      have sj := R.st j hj
      have hjm := hM j hj
      have e2 : X j = X (i + 1) ∧ Y j = Y (i + 1) := by omega
      by_cases e : i + 1 < n
      · have := R.inj2 hj e e2.1 e2.2
        omega
      · have hin : i + 1 = n := by omega
        rw [hin, R.clX, R.clY] at e2
        have := R.inj2 hj (by omega) e2.1 e2.2
        omega
theorem last_row (R : Ring X Y n) (M K : Int) (hM : ∀ i, i < n → X i ≤ M) (hA : ∃ i, i < n ∧ X i = M) (hK : ∀ i, i < n → Y i ≤ K) (hB : ∃ i, i < n ∧ Y i = K) : ∃ i, i < n ∧ vE X Y i (K - 1) = true := by
  have n4 := R.n4
  have hK2 : ∀ i, i ≤ n → Y i ≤ K := fun i hi => by
    by_cases e : i < n
    · exact hK i e
    · have : i = n := by omega
      rw [this, R.clY]; exact hK 0 (by omega)
  obtain ⟨i, y, hi, hv, _⟩ := R.last_col M hM hA
  obtain ⟨j, hj, hjK⟩ := hB
  by_cases hE : ∃ i, i < n ∧ vE X Y i (K - 1) = true
  · exact hE
  · exfalso
    have hnone : ∀ i, i < n → vE X Y i (K - 1) = false := fun i hi => by
      cases h : vE X Y i (K - 1) with
      | false => rfl
      | true => exact (hE ⟨i, hi, h⟩).elim
    have hall : ∀ k, k ≤ n → decide (K - 1 < Y 0) = decide (K - 1 < Y k) := fun k hk => by
      have h := R.prefix_ (K - 1) k hk
      rw [parN_none k (fun i hi => hnone i (by omega))] at h
      revert h
      cases decide (K - 1 < Y 0) <;> cases decide (K - 1 < Y k) <;> simp
    have hj2 := hall j (by omega)
    rw [decide_eq_true (show K - 1 < Y j by omega)] at hj2
    have hy : ∀ k, k ≤ n → Y k = K := fun k hk => by
      have h := hall k hk
      rw [hj2] at h
      have h := of_decide_eq_true h.symm
      have := hK2 k hk
      omega
    unfold vE at hv
    rw [Bool.and_eq_true, decide_eq_true_iff] at hv
    have s := R.st i hi
    have a := hy i (by omega)
    have b := hy (i + 1) (by omega)
    omega
theorem wide_cell (R : Ring X Y n) (M : Int) (hM : ∀ i, i < n → X i ≤ M) (hA : ∃ i, i < n ∧ X i = M) : ∃ y, ins X Y n y (M - 1) = true := by
  obtain ⟨i, y, hi, hv, hx⟩ := R.last_col M hM hA
  refine ⟨y, ?_⟩
  have h1 := ins_step X Y n y (M - 1)
  rw [show M - 1 + 1 = M by omega, R.ins_high y M hM, (R.atE_iff y M).2 ⟨i, hi, hv, hx⟩] at h1
  revert h1
  cases ins X Y n y (M - 1) <;> simp
theorem high_cell (R : Ring X Y n) (M K : Int) (hM : ∀ i, i < n → X i ≤ M) (hA : ∃ i, i < n ∧ X i = M) (hK : ∀ i, i < n → Y i ≤ K) (hB : ∃ i, i < n ∧ Y i = K) : ∃ x, ins X Y n (K - 1) x = true := by
  obtain ⟨i, hi, hv⟩ := R.last_row M K hM hA hK hB
  have h1 := ins_step X Y n (K - 1) (X i - 1)
  rw [show X i - 1 + 1 = X i by omega, (R.atE_iff (K - 1) (X i)).2 ⟨i, hi, hv, rfl⟩] at h1
  cases h2 : ins X Y n (K - 1) (X i - 1) with
  | true => exact ⟨_, h2⟩
  | false => rw [h2] at h1; exact ⟨_, h1⟩
theorem near (R : Ring X Y n) : ∀ k i, i + k ≤ n → (X (i + k) - X i ≤ k ∧ X i - X (i + k) ≤ k) ∧ (Y (i + k) - Y i ≤ k ∧ Y i - Y (i + k) ≤ k)
  | 0, i, _ => by simp
  | k + 1, i, h => by
    have ih := near R k i (by omega)
    have s := R.st (i + k) (by omega)
    rw [show i + (k + 1) = i + k + 1 by omega]
    omega
theorem wide_le (R : Ring X Y n) (i j : Nat) (hi : i ≤ n) (hj : j ≤ n) : (X j - X i ≤ n ∧ Y j - Y i ≤ n) := by
  rcases Nat.le_total i j with h | h
  · have := R.near (j - i) i (by omega)
    rw [show i + (j - i) = j by omega] at this
    omega
  · have := R.near (i - j) j (by omega)
    rw [show j + (i - j) = i by omega] at this
    omega
end Ring

end Go.Proofs.YtbnkdfmomcmmaaaDoor.P


namespace Go.Proofs.YtbnkdfmomcmmaaaDoor.P
open Go.RowKit Go.Proofs.YtbnkdfmomcmmaaaDoorW.PrintWords Go.Proofs.YtbnkdfmomcmmaaaDoorW.PrintLast Go.Proofs.YtbnkdfmomcmmaaaDoorW.PrintMore
attribute [local go_sem] max2_int min2_int max_two min_two max_three min_three max_four min_four   -- for this text's walks alone
set_option linter.unusedVariables false
set_option linter.unusedSimpArgs false

def impl_within.f (a0 : Int) (a1 : Int) (a2 : Int) : Option (Bool) := if a1 ≤ a0 then (some (decide (a0 ≤ a2))) else (some false)
set_option maxHeartbeats 8000000 in
set_option maxRecDepth 100000 in
theorem impl_within.calls (a0 : Int) (a1 : Int) (a2 : Int) (r : Bool) (w : World) (h : impl_within.f a0 a1 a2 = some r) :
    Calls Tryd.prog 28 #[.int .i64 a0, .int .i64 a1, .int .i64 a2] w fun e w' => e = .returned (.bool r) ∧ Drawn0 w w' := by
  have H : (if a1 ≤ a0 then (some (decide (a0 ≤ a2))) else (some false)) = some r := h
  clear h
  by_cases c4 : a1 ≤ a0
  · rw [if_pos c4] at H
    have c4b0 : decide (a1 ≤ a0) = true := decide_eq_true c4
    clear c4
    obtain rfl := Option.some.inj H
    go_enter Tryd.func28, Tryd.ntmps28
    go_wp2
    go_ret
    exact ⟨by first | rfl | (simp; done) | (simp [*]; done), by repeat (first | exact Drawn0.refl _ | apply Drawn0.step)⟩
  · rw [if_neg c4] at H
    have c4b0 : decide (a1 ≤ a0) = false := decide_eq_false c4
    clear c4
    obtain rfl := Option.some.inj H
    go_enter Tryd.func28, Tryd.ntmps28
    go_wp2
    go_ret
    exact ⟨by first | rfl | (simp; done) | (simp [*]; done), by repeat (first | exact Drawn0.refl _ | apply Drawn0.step)⟩

end Go.Proofs.YtbnkdfmomcmmaaaDoor.P


namespace Go.Proofs.YtbnkdfmomcmmaaaDoor.P
open Go.RowKit Go.Proofs.YtbnkdfmomcmmaaaDoorW.PrintWords Go.Proofs.YtbnkdfmomcmmaaaDoorW.PrintLast Go.Proofs.YtbnkdfmomcmmaaaDoorW.PrintMore
attribute [local go_sem] max2_int min2_int max_two min_two max_three min_three max_four min_four   -- for this text's walks alone
set_option linter.unusedVariables false
set_option linter.unusedSimpArgs false

def stepsB : ByteArray := ⟨#[110, 101, 115, 119]⟩
def strings_Trim.f (a0 a1 : ByteArray) : Option ByteArray := if a0.size ≤ 9223372036854775807 ∧ a1 = stepsB then some ⟨(Lib.trimS a0.data.toList stepsB.data.toList).toArray⟩ else none
theorem strings_Trim.calls (a0 a1 : ByteArray) (r : ByteArray) (w : World) (h : strings_Trim.f a0 a1 = some r) :
    Calls Tryd.prog 29 #[.string a0, .string a1] w fun e w' => e = .returned (.string r) ∧ Below w.heap.size w w' := by
  unfold strings_Trim.f at h
  split at h
  · rename_i h0
    obtain rfl := Option.some.inj h
    obtain ⟨h1, rfl⟩ := h0
    exact Any.strings_Trim_laid Tryd.lays160 (by kernel_rfl) a0 stepsB w h1 (by decide) (ascii_of_all (by decide))
  · cases h

end Go.Proofs.YtbnkdfmomcmmaaaDoor.P


namespace Go.Proofs.YtbnkdfmomcmmaaaDoor.P
open Go.RowKit Go.Proofs.YtbnkdfmomcmmaaaDoorW.PrintWords Go.Proofs.YtbnkdfmomcmmaaaDoorW.PrintLast Go.Proofs.YtbnkdfmomcmmaaaDoorW.PrintMore
attribute [local go_sem] max2_int min2_int max_two min_two max_three min_three max_four min_four   -- for this text's walks alone
set_option linter.unusedVariables false
set_option linter.unusedSimpArgs false

def seenC (l : List S41) : List (Int × Int) := l.foldl (fun S c => if pairC c ∈ S then S else pairC c :: S) []
theorem seenC_snoc (l : List S41) (c : S41) : seenC (l ++ [c]) = if pairC c ∈ seenC l then seenC l else pairC c :: seenC l := by
  unfold seenC; rw [List.foldl_append]; rfl
theorem seenC_len (l : List S41) : (seenC l).length ≤ l.length := by
  have h : ∀ (l : List S41) (S : List (Int × Int)), (l.foldl (fun S c => if pairC c ∈ S then S else pairC c :: S) S).length ≤ S.length + l.length := by
    intro l
    induction l with
    | nil => intro S; exact Nat.le_refl _
    | cons a t ih =>
      intro S
      rw [List.foldl_cons]
      have := ih (if pairC a ∈ S then S else pairC a :: S)
      have h2 : (if pairC a ∈ S then S else pairC a :: S).length ≤ S.length + 1 := by split <;> simp
      rw [List.length_cons]
      omega
  have := h l []
  simpa [seenC] using this
def closedW (l : List UInt8) : Bool := (((cornersL l).getD l.length ⟨0, 0⟩).f0 == 0 && ((cornersL l).getD l.length ⟨0, 0⟩).f1 == 0) && decide ((seenC ((cornersL l).take l.length)).length = l.length)
def stepsOnly (s : ByteArray) : Bool := (Lib.trimS s.data.toList stepsB.data.toList).isEmpty
def isLoopB (s : ByteArray) : Bool := (decide (4 ≤ s.size) && decide (s.size ≤ 40)) && (stepsOnly s && closedW s.data.toList)
attribute [local go_sem high] eqA41
attribute [local go_sem] undef in
set_option maxRecDepth 100000 in
set_option maxHeartbeats 8000000 in
theorem isLoop_in (s : ByteArray) (hs4 : 4 ≤ s.size) (hs40 : s.size ≤ 40) (hst : stepsOnly s = true) (w : World) :
    Calls Tryd.prog 11 #[.string s] w fun e w' => e = .returned (.bool (closedW s.data.toList)) ∧ Below w.heap.size w w' := by
  have hmm := @run_makeMap Tryd.prog
  have HW := Aside0.mk (show impl_within.f (s.size : Int) 4 40 = some true from by unfold impl_within.f; rw [if_pos (by omega), decide_eq_true (by omega)])
  have HT := Aside0.mk (show strings_Trim.f s stepsB = some ⟨#[]⟩ from by
    unfold strings_Trim.f
    rw [if_pos ⟨by omega, rfl⟩]
    unfold stepsOnly at hst
    rw [List.isEmpty_iff] at hst
    rw [hst])
  have HK := Aside0.mk (show impl_walk.f s = some (cornersL s.data.toList) from by unfold impl_walk.f; rw [if_pos (by omega)])
  have hlen : (cornersL s.data.toList).length = s.size + 1 := by rw [cornersL_len]; simp
  have hn : s.data.toList.length = s.size := by simp
  have HN := Aside0.mk hn
  unfold closedW
  rw [hn]
  have HBd := Aside0.mk (cornersL_bound s.data.toList (by rw [hn]; omega))
  have H00 : Aside0 ((cornersL s.data.toList).getD 0 ⟨0, 0⟩ = ⟨0, 0⟩) := ⟨rfl⟩
  generalize cornersL s.data.toList = cs at hlen HK HBd H00 ⊢
  have e1 : wrap64 (((s.size + 1 : Nat) : Int) - 1) = (s.size : Int) := by unfold wrap64; omega
  clear hn hst
  go_enter Tryd.func11, Tryd.ntmps11
  go_wp2_with (first
    | (go_at_call 28; refine (impl_within.calls _ _ _ _ _ HW.out).mono ?_; rintro e w1 ⟨rfl, ⟨nd, rfl⟩⟩)
    | (go_at_call 29; refine (strings_Trim.calls s stepsB _ _ HT.out).mono ?_; rintro e w2 ⟨rfl, hb2⟩)
    | (go_at_call 30; refine (impl_walk.calls s _ _ HK.out).mono ?_; rintro e w3 ⟨v, rfl, ho, hb3⟩; obtain ⟨A, c, rfl⟩ := Kd.R_slice ho; have hcap := (Kd.R_reads' ho).2.1; have HO := Aside0.mk ho; clear ho; rw [hlen] at HO hcap ⊢; have hcap2 : (s.size : Int) ≤ (c : Int) := by omega))
  have HB0 : Aside0 (Below w.heap.size w (w3.alloc (.map #[] 0))) := ⟨below_alloc (below_step (below_step (pw_below_drewN (Below.refl _ _) _) hb2) hb3) _⟩
  have HL0 : Aside0 (Kd.R k41 41 (w3.alloc (.map #[] 0)) w.heap.size (fun k => k ≠ w3.heap.size) (.slice A (s.size + 1) c) cs) := ⟨Kd.R_alloc (Kd.R_lower (Kd.R_mono (Kd.R_bound HO.out) (fun k hk => by have := hk.2.2.1; omega)) (by have := (below_step (pw_below_drewN (Below.refl w.heap.size w) nd) hb2).size; omega)) _⟩
  have HM0 : Aside0 (MapIs (w3.alloc (.map #[] 0)) Tryd.prog 41 w3.heap.size 0 cornV (inP [])) := ⟨(MapIs.made w3 Tryd.prog 41 cornV).congr (fun c kl _ => by unfold inP; simp)⟩
  have HW3 : Aside0 (w.heap.size ≤ w3.heap.size) := ⟨by have := (below_step (below_step (pw_below_drewN (Below.refl w.heap.size w) nd) hb2) hb3).size; exact this⟩
  clear HO hb2 hb3 HW HT HK hmm hcap hcap2
  generalize w3.heap.size = bm at HL0 HM0 HW3 ⊢
  generalize w3.alloc (.map #[] 0) = W0 at HB0 HL0 HM0 ⊢
  go_loopg [7, 27] s.size (fun gg _ u27 wr => ∃ i : Nat, i ≤ s.size ∧ s.size - i ≤ gg ∧ u27 = .int .i64 i ∧ Aside0 (MapIs wr Tryd.prog 41 bm (seenC (cs.take i)).length cornV (inP (seenC (cs.take i)))) ∧ Aside0 (Kd.R k41 41 wr w.heap.size (fun k => k ≠ bm) (.slice A (s.size + 1) c) cs) ∧ Aside0 (Below w.heap.size w wr))
  case atStart => exact ⟨0, Nat.zero_le _, by omega, rfl, HM0, HL0, HB0⟩
  case round =>
    clear HM0 HL0 HB0
    obtain ⟨i, hi, hgg, rfl, HM, HL, HB⟩ := hrel
    have hat : ∀ j : Nat, j ≤ s.size → ∃ ad, A = some ad ∧ wr.cell? (ad.add (j * 2)) = some (.int .i64 (cs.getD j ⟨0, 0⟩).f0) ∧ wr.cell? ⟨(ad.add (j * 2)).block, (ad.add (j * 2)).off + 1, none⟩ = some (.int .i64 (cs.getD j ⟨0, 0⟩).f1) := fun j hj => by
      obtain ⟨ad, h1, h2, h3⟩ := at_T41 (Kd.R_reads' HL.out).2.2 (j : Int) (by omega) (by rw [hlen]; omega)
      have hrc : rd_T41 cs (j : Int) = cs.getD j ⟨0, 0⟩ := by unfold rd_T41; rw [Int.toNat_natCast]; rfl
      rw [hrc, Int.toNat_natCast] at h2 h3
      exact ⟨ad, h1, h2, h3⟩
    by_cases hlt : i < s.size
    · have hltz : (i : Int) < (s.size : Int) := by omega
      have hil : i < cs.length := by omega
      obtain ⟨ad, rfl, hy1, hy2⟩ := hat i hi
      have hce : cs.getD i ⟨0, 0⟩ = cs[i] := by rw [List.getD_eq_getElem?_getD, List.getElem?_eq_getElem hil]; rfl
      have hbd := HBd.out cs[i] (List.getElem_mem hil)
      have htk : cs.take (i + 1) = cs.take i ++ [cs[i]] := List.take_succ_eq_append_getElem hil
      have hsn := seenC_snoc (cs.take i) cs[i]
      rw [← htk] at hsn
      rw [hce] at hy1 hy2
      have hlen2 := seenC_len (cs.take i)
      rw [List.length_take] at hlen2
      clear hat hce htk
      generalize cs[i] = ce at hy1 hy2 hbd hsn
      obtain ⟨x, y⟩ := ce
      obtain ⟨wt, hst, hM2, ht⟩ := (HM.out.alloc (.cells #[.int .i64 x, .int .i64 y] 41)).store cornKeyed Tryd.underlying39 (by unfold maxLen; omega) cornV_inj (cornKey x y (i64_wf x (by simp at hbd; omega) (by simp at hbd; omega)) (i64_wf y (by simp at hbd; omega) (by simp at hbd; omega))) (.bool true)
      have hst2 : (Instr.mapUpdate 39 (.map (some bm)) (.agg #[.int .i64 x, .int .i64 y]) (.bool true)).run Tryd.prog (wr.alloc (.cells #[.int .i64 x, .int .i64 y] 41)) = .ok () wt := hst
      have HM2 : Aside0 (MapIs wt Tryd.prog 41 bm (seenC (cs.take (i + 1))).length cornV (inP (seenC (cs.take (i + 1))))) := ⟨by
        rw [hsn]
        by_cases hin : (x, y) ∈ seenC (cs.take i)
        · rw [if_pos (show pairC ⟨x, y⟩ ∈ _ from hin)]
          have e : (inP (seenC (cs.take i)) (x, y)).isSome = true := by unfold inP; rw [if_pos hin]; rfl
          rw [e, if_pos rfl] at hM2
          exact hM2.congr (fun a kl _ => by unfold inP; by_cases ha : a = (x, y) <;> simp [ha, hin])
        · rw [if_neg (show ¬ pairC ⟨x, y⟩ ∈ _ from hin)]
          have e : (inP (seenC (cs.take i)) (x, y)).isSome = false := by unfold inP; rw [if_neg hin]; rfl
          rw [e, if_neg (by simp)] at hM2
          exact hM2.congr (fun a kl _ => by unfold inP pairC; by_cases ha : a = (x, y) <;> by_cases hb : a ∈ seenC (cs.take i) <;> simp [ha, hb])⟩
      have HL2 : Aside0 (Kd.R k41 41 wt w.heap.size (fun k => k ≠ bm) (.slice (some ad) (s.size + 1) c) cs) := ⟨Kd.R_grown (Kd.R_alloc HL.out _) ht.grown (fun k hk e => hk (by cases e; rfl))⟩
      have HB2 : Aside0 (Below w.heap.size w wt) := ⟨((FrameBut.of_below (O := fun k => k = bm) (below_alloc HB.out (.cells #[.int .i64 x, .int .i64 y] 41))).turned ht (.inl rfl)).toBelow (Nat.le_refl _) (fun k hk e => by have := HW3.out; omega)⟩
      clear hst hM2 ht HM HL HB hbd hsn hlen2
      go_wp2_with fail
      go_roundg (s.size - (i + 1))
      case measure => omega
      case rel => exact ⟨i + 1, by omega, by omega, by go_num, HM2, HL2, HB2⟩
    · have hltz : ¬ (i : Int) < (s.size : Int) := by omega
      have hie : i = s.size := by omega
      obtain ⟨ad, rfl, hy1, hy2⟩ := hat s.size (Nat.le_refl _)
      obtain ⟨ad', he', hz1, hz2⟩ := hat 0 (Nat.zero_le _)
      cases he'
      have hadd0 : ad.add (0 * 2) = ad := by cases ad; rfl
      rw [H00.out, hadd0] at hz1 hz2
      have HMd := HM.out.below (below_drew (Below.refl wr.heap.size wr))
      have hlm := fun ty => HMd.len Tryd.underlying39 ty
      have hlm0 := fun ty => HM.out.len Tryd.underlying39 ty
      rw [hie]
      generalize hcz : cs.getD s.size ⟨0, 0⟩ = cz at hy1 hy2
      have HCZ := Aside0.mk hcz
      clear hcz
      obtain ⟨x, y⟩ := cz
      have hix : (s.size : Int) < (s.size : Int) + 1 := by omega
      have hy1d : wr.drew.cell? (ad.add (s.size * 2)) = some (.int .i64 x) := hy1
      have hy2d : wr.drew.cell? ⟨(ad.add (s.size * 2)).block, (ad.add (s.size * 2)).off + 1, none⟩ = some (.int .i64 y) := hy2
      have hz1d : wr.drew.cell? ad = some (.int .i64 0) := hz1
      have hz2d : wr.drew.cell? ⟨ad.block, ad.off + 1, none⟩ = some (.int .i64 0) := hz2
      clear hat HM HMd
      cases hx : (x == 0 && y == 0) with
      | true =>
        go_wp2_with fail
        first | go_region_law (fail) | fail
        all_goals
          go_wp2_with fail
          go_ret
          refine ⟨congrArg (fun b => Ending.returned (.bool b)) ?_, below_drew HB.out⟩
          have hx2 : ((⟨x, y⟩ : S41).f0 == 0 && (⟨x, y⟩ : S41).f1 == 0) = true := hx
          rw [HCZ.out, hx2, Bool.true_and, Bool.eq_iff_iff, beq_iff_eq, decide_eq_true_iff]
          exact ⟨fun h => by omega, fun h => by omega⟩
      | false =>
        go_wp2_with fail
        first | go_region_law (fail) | fail
        all_goals
          go_wp2_with fail
          go_ret
          refine ⟨congrArg (fun b => Ending.returned (.bool b)) ?_, below_drew HB.out⟩
          have hx2 : ((⟨x, y⟩ : S41).f0 == 0 && (⟨x, y⟩ : S41).f1 == 0) = false := hx
          rw [HCZ.out, hx2, Bool.false_and]
set_option maxRecDepth 100000 in
theorem isLoop_out (s : ByteArray) (hs : ¬ (4 ≤ s.size ∧ s.size ≤ 40)) (w : World) : Calls Tryd.prog 11 #[.string s] w fun e w' => e = .returned (.bool false) ∧ Below w.heap.size w w' := by
  have HW := Aside0.mk (show impl_within.f (s.size : Int) 4 40 = some false from by
    unfold impl_within.f
    by_cases h : (4 : Int) ≤ (s.size : Int)
    · rw [if_pos h, decide_eq_false (by omega)]
    · rw [if_neg h])
  clear hs
  go_enter Tryd.func11, Tryd.ntmps11
  go_wp2_with (first
    | (go_at_call 28; refine (impl_within.calls _ _ _ _ _ HW.out).mono ?_; rintro e w1 ⟨rfl, ⟨nd, rfl⟩⟩))
  go_ret
  exact ⟨rfl, pw_below_drewN (Below.refl _ _) _⟩
set_option maxRecDepth 100000 in
theorem isLoop_not (s : ByteArray) (hs4 : 4 ≤ s.size) (hs40 : s.size ≤ 40) (hst : stepsOnly s = false) (w : World) : Calls Tryd.prog 11 #[.string s] w fun e w' => e = .returned (.bool false) ∧ Below w.heap.size w w' := by
  have HW := Aside0.mk (show impl_within.f (s.size : Int) 4 40 = some true from by unfold impl_within.f; rw [if_pos (by omega), decide_eq_true (by omega)])
  have HT := Aside0.mk (show strings_Trim.f s stepsB = some ⟨(Lib.trimS s.data.toList stepsB.data.toList).toArray⟩ from by unfold strings_Trim.f; rw [if_pos ⟨by omega, rfl⟩])
  unfold stepsOnly at hst
  generalize Lib.trimS s.data.toList stepsB.data.toList = t at HT hst
  cases t with
  | nil => cases hst
  | cons a t =>
    clear hst
    have hemp : (⟨(a :: t).toArray⟩ : ByteArray).toList.isEmpty = false := by rw [Lib.toList_data]; simp
    generalize (⟨(a :: t).toArray⟩ : ByteArray) = r at HT hemp
    go_enter Tryd.func11, Tryd.ntmps11
    go_wp2_with (first
      | (go_at_call 28; refine (impl_within.calls _ _ _ _ _ HW.out).mono ?_; rintro e w1 ⟨rfl, ⟨nd, rfl⟩⟩)
      | (go_at_call 29; refine (strings_Trim.calls s stepsB _ _ HT.out).mono ?_; rintro e w2 ⟨rfl, hb2⟩))
    go_ret
    exact ⟨by first | rfl | simp, below_step (pw_below_drewN (Below.refl _ _) _) hb2⟩
def impl_IsLoop.f (a0 : ByteArray) : Option Bool := some (isLoopB a0)
theorem impl_IsLoop.calls (a0 : ByteArray) (r : Bool) (w : World) (h : impl_IsLoop.f a0 = some r) :
    Calls Tryd.prog 11 #[.string a0] w fun e w' => e = .returned (.bool r) ∧ Below w.heap.size w w' := by
  obtain rfl := Option.some.inj h
  unfold isLoopB
  by_cases h1 : 4 ≤ a0.size ∧ a0.size ≤ 40
  · rw [decide_eq_true h1.1, decide_eq_true h1.2]
    cases h2 : stepsOnly a0 with
    | true => exact isLoop_in a0 h1.1 h1.2 h2 w
    | false => exact isLoop_not a0 h1.1 h1.2 h2 w
  · have e : (decide (4 ≤ a0.size) && decide (a0.size ≤ 40)) = false := by
      rw [Bool.eq_false_iff]; intro h; rw [Bool.and_eq_true, decide_eq_true_iff, decide_eq_true_iff] at h; exact h1 h
    rw [e]
    exact isLoop_out a0 h1 w

end Go.Proofs.YtbnkdfmomcmmaaaDoor.P


namespace Go.Proofs.YtbnkdfmomcmmaaaDoor.P
open Go.RowKit Go.Proofs.YtbnkdfmomcmmaaaDoorW.PrintWords Go.Proofs.YtbnkdfmomcmmaaaDoorW.PrintLast Go.Proofs.YtbnkdfmomcmmaaaDoorW.PrintMore
attribute [local go_sem] max2_int min2_int max_two min_two max_three min_three max_four min_four   -- for this text's walks alone
set_option linter.unusedVariables false
set_option linter.unusedSimpArgs false

def lowL (cs : List S41) : Nat → S41
  | 0 => cs.getD 0 ⟨0, 0⟩
  | i + 1 => ⟨if (cs.getD i ⟨0, 0⟩).f0 < (lowL cs i).f0 then (cs.getD i ⟨0, 0⟩).f0 else (lowL cs i).f0, if (cs.getD i ⟨0, 0⟩).f1 < (lowL cs i).f1 then (cs.getD i ⟨0, 0⟩).f1 else (lowL cs i).f1⟩
def insP (S : List (Int × Int)) (p : Int × Int) : List (Int × Int) := if p ∈ S then S else p :: S
def upsL (cs : List S41) (lo : S41) : Nat → List (Int × Int)
  | 0 => []
  | k + 1 => if (cs.getD k ⟨0, 0⟩).f0 = (cs.getD (k + 1) ⟨0, 0⟩).f0 then insP (upsL cs lo k) ((cs.getD k ⟨0, 0⟩).f0 - lo.f0, (if (cs.getD (k + 1) ⟨0, 0⟩).f1 < (cs.getD k ⟨0, 0⟩).f1 then (cs.getD (k + 1) ⟨0, 0⟩).f1 else (cs.getD k ⟨0, 0⟩).f1) - lo.f1) else upsL cs lo k
def scanL (S : List (Int × Int)) (y : Nat) : Nat → Bool × List S41
  | 0 => (false, [])
  | x + 1 => (if ((x : Int), (y : Int)) ∈ S then !(scanL S y x).1 else (scanL S y x).1, if (if ((x : Int), (y : Int)) ∈ S then !(scanL S y x).1 else (scanL S y x).1) then (scanL S y x).2 ++ [⟨x, y⟩] else (scanL S y x).2)
def rowsL (S : List (Int × Int)) : Nat → List S41
  | 0 => []
  | y + 1 => rowsL S y ++ (scanL S y 40).2
def cellsW (l : List UInt8) : List S41 := rowsL (upsL (cornersL l) (lowL (cornersL l) (l.length + 1)) l.length) 40
theorem getD_bd (cs : List S41) (h : ∀ d ∈ cs, (-1000 ≤ d.f0 ∧ d.f0 ≤ 1000) ∧ (-1000 ≤ d.f1 ∧ d.f1 ≤ 1000)) (i : Nat) : (-1000 ≤ (cs.getD i ⟨0, 0⟩).f0 ∧ (cs.getD i ⟨0, 0⟩).f0 ≤ 1000) ∧ (-1000 ≤ (cs.getD i ⟨0, 0⟩).f1 ∧ (cs.getD i ⟨0, 0⟩).f1 ≤ 1000) := by
  by_cases hi : i < cs.length
  · rw [List.getD_eq_getElem?_getD, List.getElem?_eq_getElem hi]
    exact h _ (List.getElem_mem hi)
  · rw [List.getD_eq_getElem?_getD, List.getElem?_eq_none (by omega)]
    simp
theorem lowL_bd (cs : List S41) (h : ∀ d ∈ cs, (-1000 ≤ d.f0 ∧ d.f0 ≤ 1000) ∧ (-1000 ≤ d.f1 ∧ d.f1 ≤ 1000)) : ∀ i, (-1000 ≤ (lowL cs i).f0 ∧ (lowL cs i).f0 ≤ 1000) ∧ (-1000 ≤ (lowL cs i).f1 ∧ (lowL cs i).f1 ≤ 1000)
  | 0 => getD_bd cs h 0
  | i + 1 => by
    have h1 := getD_bd cs h i
    have h2 := lowL_bd cs h i
    show (-1000 ≤ (if _ then _ else _) ∧ (if _ then _ else _) ≤ (1000 : Int)) ∧ (-1000 ≤ (if _ then _ else _) ∧ (if _ then _ else _) ≤ (1000 : Int))
    generalize cs.getD i ⟨0, 0⟩ = a at h1 ⊢
    generalize lowL cs i = b at h2 ⊢
    refine ⟨⟨?_, ?_⟩, ⟨?_, ?_⟩⟩ <;> split <;> omega
theorem insP_len (S : List (Int × Int)) (p : Int × Int) : (insP S p).length ≤ S.length + 1 := by
  unfold insP
  split
  · omega
  · rw [List.length_cons]; omega
theorem upsL_len (cs : List S41) (lo : S41) : ∀ k, (upsL cs lo k).length ≤ k
  | 0 => Nat.le_refl _
  | k + 1 => by
    have h := upsL_len cs lo k
    unfold upsL
    split
    · exact Nat.le_trans (insP_len _ _) (by omega)
    · omega
theorem R_zeroC (w : World) (base : Nat) (hb : base ≤ w.heap.size) : Kd.R k41 41 (w.alloc (.cells #[] 41)) base (fun k => w.heap.size ≤ k) (.slice (some ⟨w.heap.size, 0, none⟩) 0 0) [] := by
  refine ⟨fun k hk => ?_, [], ?_, ?_⟩
  · simp [Value.ownBlock] at hk
    omega
  · have h := World.ownsRow_lit (base := base) (e := 41) (size := 2) w #[] 0 hb (by simp [maxLen]) (by simp)
    have h2 : (w.alloc (.cells #[] 41)).ownsRow base 41 2 (.slice (some ⟨w.heap.size, 0, none⟩) 0 0) 0 [] := by simpa using h
    exact h2
  · exact ⟨rfl, fun j p hj => by simp at hj⟩
theorem scanL_len (S : List (Int × Int)) (y : Nat) : ∀ x, (scanL S y x).2.length ≤ x
  | 0 => Nat.le_refl _
  | x + 1 => by
    have h := scanL_len S y x
    have h2 : (scanL S y (x + 1)).2 = (scanL S y x).2 ∨ (scanL S y (x + 1)).2 = (scanL S y x).2 ++ [⟨x, y⟩] := by
      rw [scanL]
      dsimp only
      split <;> split <;> simp
    rcases h2 with h2 | h2 <;> rw [h2]
    · omega
    · rw [List.length_append, List.length_singleton]; omega
theorem rowsL_suc (S : List (Int × Int)) (y : Nat) : rowsL S (y + 1) = rowsL S y ++ (scanL S y 40).2 := by rw [rowsL]
theorem rowsL_len (S : List (Int × Int)) : ∀ y, (rowsL S y).length ≤ 40 * y
  | 0 => Nat.le_refl _
  | y + 1 => by
    have h := rowsL_len S y
    have h2 := scanL_len S y 40
    unfold rowsL
    rw [List.length_append]
    omega
def cellsT12 : Bool × List (List Nat × List Nat) := (true, [([], []), ([], []), ([0, 1], [0, 1]), ([2], [2]), ([], []), ([], []), ([5], [5]), ([4, 6], [4, 6]), ([7], [7]), ([], []), ([], []), ([9, 3, 0, 1, 2, 3, 9, 10], [3, 9]), ([10, 8, 11, 0, 1, 2, 3, 4, 5, 6, 7, 8, 9, 10, 11], [8, 10])])
def cellsB12 : List Nat := [0, 0, 3, 7, 0, 0, 32, 112, 240, 0, 0, 1551, 4095]
theorem cells_tab12 : rtab .any (opsOf Tryd.f39 12) = cellsT12 := by kernel_rfl
theorem cells_bits12 : waitsOk cellsT12.2 cellsB12 = true := by kernel_rfl
set_option maxRecDepth 100000 in
set_option maxHeartbeats 2000000 in
theorem cells_any (s : ByteArray) (hs40 : s.size ≤ 40) (w : World) :
    Calls Tryd.prog 39 #[.string s] w fun e w' => ∃ v, e = .returned v ∧ Kd.R k41 41 w' w.heap.size (fun _ => True) v (cellsW s.data.toList) ∧ Below w.heap.size w w' := by
  have hmm := @run_makeMap Tryd.prog
  have HK := Aside0.mk (show impl_walk.f s = some (cornersL s.data.toList) from by unfold impl_walk.f; rw [if_pos (by omega)])
  have hlen : (cornersL s.data.toList).length = s.size + 1 := by rw [cornersL_len]; simp
  have hn : s.data.toList.length = s.size := by simp
  have HBd := Aside0.mk (cornersL_bound s.data.toList (by rw [hn]; omega))
  unfold cellsW
  rw [hn]
  generalize cornersL s.data.toList = cs at hlen HK HBd ⊢
  clear hn
  go_enter Tryd.func39, Tryd.ntmps39
  go_wp2_with (first
    | (go_at_call 30; refine (impl_walk.calls s _ _ HK.out).mono ?_; rintro e w3 ⟨v, rfl, ho, hb3⟩; obtain ⟨A, c, rfl⟩ := Kd.R_slice ho; have HO := Aside0.mk ho; clear ho; obtain ⟨ad, rfl, hz1, hz2⟩ := at_T41 (Kd.R_reads' HO.out).2.2 0 (by omega) (by rw [hlen]; omega); have hrd : rd_T41 cs 0 = cs.getD 0 ⟨0, 0⟩ := rfl; rw [hrd] at hz1 hz2; (rw [show ((0 : Int)).toNat = 0 from rfl, show 0 * 2 = 0 from rfl, Addr.add_zero'] at hz1 hz2); rw [hlen] at HO ⊢; have HB3 := Aside0.mk hb3; generalize hc0 : cs.getD 0 ⟨0, 0⟩ = c0 at hz1 hz2; have HC0 := Aside0.mk hc0; clear hb3 hrd hc0)
    | ((with_reducible refine gate_dst (N := 4) rfl ?_); refine box_event ?hg (N := 4) ?hd (cs := #[.int .i64 0, .int .i64 0]) (t := 41) ?hr ?_; (case hd => rfl); (case hg => rfl); (case hr => first | (go_simp; done) | (go_simp; rfl)); intro bl hg w4 hbox hb; have HB4 := Aside0.mk (below_step (by first | exact HB3.out | exact pw_below_drewN HB3.out _) hb); have HO4 : Aside0 (Kd.R k41 41 w4 w.heap.size (fun k => k < bl) (.slice (some ad) (s.size + 1) c) cs) := ⟨Kd.R_below (Kd.R_mono (Kd.R_bound HO.out) (fun k hk => by have := hk.2.2.1; omega)) hb⟩; have BL := Aside0.mk hbox; have GL := Aside0.mk (show w.heap.size ≤ bl by have := HB3.out.size; rw [hg]; exact this); have hs4 : w4.cell? ⟨bl, 0, none⟩ = some (.int .i64 0) := (blk_cell hbox 0).trans rfl; have hf4 := blk_frozen hbox 0; have hs5 : w4.cell? ⟨bl, 1, none⟩ = some (.int .i64 0) := (blk_cell hbox 1).trans rfl; have hf5 := blk_frozen hbox 1; clear hg hb hbox))
  go_loopg [22] (s.size + 1) (fun gg u22 wr => ∃ i : Nat, i ≤ s.size + 1 ∧ s.size + 1 - i ≤ gg ∧ u22 = .int .i64 i ∧ Aside0 (wr.heap[bl]? = some (.cells #[.int .i64 (lowL cs i).f0, .int .i64 (lowL cs i).f1] 41 (0, 0))) ∧ Aside0 (Kd.R k41 41 wr w.heap.size (fun k => k < bl) (.slice (some ad) (s.size + 1) c) cs) ∧ Aside0 (Below w.heap.size w wr))
  case atStart =>
    have hl0 : lowL cs 0 = c0 := HC0.out
    exact ⟨0, Nat.zero_le _, by omega, rfl, ⟨by rw [hl0]; exact blk_put (cs := #[.int .i64 c0.f0, .int .i64 0]) (blk_put (cs := #[.int .i64 0, .int .i64 0]) BL.out 0 _ rfl) 1 _ rfl⟩, ⟨Kd.R_far (Kd.R_far HO4.out (fun k hk => by simp; omega) _) (fun k hk => by simp; omega) _⟩, ⟨below_set (below_set HB4.out GL.out) GL.out⟩⟩
  case round =>
    clear BL HO4 HB4 hs4 hf4 hs5 hf5
    obtain ⟨i, hi, hgg, rfl, BL, HO, HB⟩ := hrel
    by_cases hlt : i < s.size + 1
    · have hltz : (i : Int) < ((s.size + 1 : Nat) : Int) := by omega
      obtain ⟨ad', he', hx1, hx2⟩ := at_T41 (Kd.R_reads' HO.out).2.2 (i : Int) (by omega) (by rw [hlen]; omega)
      cases he'
      have hrc : rd_T41 cs (i : Int) = cs.getD i ⟨0, 0⟩ := by unfold rd_T41; rw [Int.toNat_natCast]; rfl
      rw [hrc, Int.toNat_natCast] at hx1 hx2
      have hsuc : lowL cs (i + 1) = ⟨if (cs.getD i ⟨0, 0⟩).f0 < (lowL cs i).f0 then (cs.getD i ⟨0, 0⟩).f0 else (lowL cs i).f0, if (cs.getD i ⟨0, 0⟩).f1 < (lowL cs i).f1 then (cs.getD i ⟨0, 0⟩).f1 else (lowL cs i).f1⟩ := rfl
      generalize cs.getD i ⟨0, 0⟩ = ce at hx1 hx2 hsuc
      generalize lowL cs i = lo at BL hsuc
      generalize hq0 : (if ce.f0 < lo.f0 then ce.f0 else lo.f0) = q0 at hsuc
      generalize hq1 : (if ce.f1 < lo.f1 then ce.f1 else lo.f1) = q1 at hsuc
      have HS := Aside0.mk hsuc
      clear hsuc hrc
      go_wp2_with (first
        | ((with_reducible refine gate_dst (N := 6) rfl ?_); refine box_event ?hg (N := 6) ?hd (cs := #[.int .i64 0, .int .i64 0]) (t := 41) ?hr ?_; (case hd => rfl); (case hg => rfl); (case hr => first | (go_simp; done) | (go_simp; rfl)); intro b6 hg w6 hbox hb; have HB6 := Aside0.mk (below_step (by first | exact HB.out | exact pw_below_drewN HB.out _) hb); have HO6 := Aside0.mk (Kd.R_below HO.out hb); have BL6 := Aside0.mk (blk_below BL.out hb); have hne := Nat.ne_of_lt (show bl < b6 by rw [hg]; exact blk_lt BL.out); have hne2 := hne.symm; have h60 : w6.cell? ⟨b6, 0, none⟩ = some (.int .i64 0) := (blk_cell hbox 0).trans rfl; have hf60 := blk_frozen hbox 0; have h61 : w6.cell? ⟨b6, 1, none⟩ = some (.int .i64 0) := (blk_cell hbox 1).trans rfl; have hf61 := blk_frozen hbox 1; have hl0 : w6.cell? ⟨bl, 0, none⟩ = some (.int .i64 lo.f0) := (blk_cell BL6.out 0).trans rfl; have hfl0 := blk_frozen BL6.out 0; have hl1 : w6.cell? ⟨bl, 1, none⟩ = some (.int .i64 lo.f1) := (blk_cell BL6.out 1).trans rfl; have hfl1 := blk_frozen BL6.out 1; have hG6 := Aside0.mk (show bl < b6 by rw [hg]; exact blk_lt BL.out); clear hg hb hbox))
      go_roundg (s.size + 1 - (i + 1))
      case measure => omega
      case rel => exact ⟨i + 1, by omega, by omega, by go_num, ⟨by rw [HS.out]; exact blk_put (cs := #[.int .i64 q0, .int .i64 lo.f1]) (blk_put (cs := #[.int .i64 lo.f0, .int .i64 lo.f1]) (blk_far (blk_far BL6.out hne _) hne _) 0 _ rfl) 1 _ rfl⟩, ⟨Kd.R_far (Kd.R_far (Kd.R_far (Kd.R_far HO6.out (fun k hk => by have := hG6.out; simp; omega) _) (fun k hk => by have := hG6.out; simp; omega) _) (fun k hk => by simp; omega) _) (fun k hk => by simp; omega) _⟩, ⟨below_set (below_set (below_set (below_set HB6.out (Nat.le_trans GL.out (Nat.le_of_lt hG6.out))) (Nat.le_trans GL.out (Nat.le_of_lt hG6.out))) GL.out) GL.out⟩⟩
    · have hltz : ¬ (i : Int) < ((s.size + 1 : Nat) : Int) := by omega
      have hie : i = s.size + 1 := by omega
      subst hie
      have HLo := Aside0.mk (lowL_bd cs HBd.out (s.size + 1))
      have HLoE : ∃ lo, lowL cs (s.size + 1) = lo := ⟨_, rfl⟩
      obtain ⟨lo, hLoE⟩ := HLoE
      have HLoE := Aside0.mk hLoE
      rw [hLoE] at BL HLo
      clear hLoE
      go_wp2_with fail
      have HM0 : Aside0 (MapIs (wr.alloc (.map #[] 0)) Tryd.prog 41 wr.heap.size 0 cornV (inP [])) := ⟨(MapIs.made wr Tryd.prog 41 cornV).congr (fun c kl _ => by unfold inP; simp)⟩
      have HB0 : Aside0 (Below w.heap.size w (wr.alloc (.map #[] 0))) := ⟨below_alloc HB.out _⟩
      have HO0 := Aside0.mk (Kd.R_alloc HO.out (.map #[] 0))
      have BL0 := Aside0.mk (blk_alloc BL.out (.map #[] 0))
      have GM : Aside0 (bl < wr.heap.size) := ⟨blk_lt BL.out⟩
      clear HB HO BL hmm
      generalize wr.heap.size = bm at HM0 GM ⊢
      generalize wr.alloc (.map #[] 0) = W0 at HM0 HB0 HO0 BL0 ⊢
      go_loopg [41] s.size (fun gg u41 wr => ∃ i : Nat, i ≤ s.size ∧ s.size - i ≤ gg ∧ u41 = .int .i64 i ∧ Aside0 (MapIs wr Tryd.prog 41 bm (upsL cs lo i).length cornV (inP (upsL cs lo i))) ∧ Aside0 (wr.heap[bl]? = some (.cells #[.int .i64 lo.f0, .int .i64 lo.f1] 41 (0, 0))) ∧ Aside0 (Kd.R k41 41 wr w.heap.size (fun k => k < bl) (.slice (some ad) (s.size + 1) c) cs) ∧ Aside0 (Below w.heap.size w wr))
      case atStart => exact ⟨0, Nat.zero_le _, by omega, rfl, HM0, BL0, HO0, HB0⟩
      case round =>
        clear HM0 BL0 HO0 HB0
        obtain ⟨k, hk, hgg, rfl, HM, BL, HO, HB⟩ := hrel
        by_cases hlt : k < s.size
        · have hltz : (k : Int) < (s.size : Int) := by omega
          obtain ⟨ad', he', hx1, hx2⟩ := at_T41 (Kd.R_reads' HO.out).2.2 (k : Int) (by omega) (by rw [hlen]; omega)
          cases he'
          obtain ⟨ad', he', hy1, hy2⟩ := at_T41 (Kd.R_reads' HO.out).2.2 ((k + 1 : Nat) : Int) (by omega) (by rw [hlen]; omega)
          cases he'
          have hrc : ∀ j : Nat, rd_T41 cs (j : Int) = cs.getD j ⟨0, 0⟩ := fun j => by unfold rd_T41; rw [Int.toNat_natCast]; rfl
          rw [hrc, Int.toNat_natCast] at hx1 hx2 hy1 hy2
          have hkz : ((k : Int) < (s.size : Int) + 1) = True := eq_true (by omega)
          have hk0 : ((0 : Int) ≤ (k : Int) + 1) = True := eq_true (by omega)
          have hk1 : wrap64 ((k : Int) + 1) = ((k + 1 : Nat) : Int) := by unfold wrap64; omega
          have HU : Aside0 (upsL cs lo (k + 1) = if (cs.getD k ⟨0, 0⟩).f0 = (cs.getD (k + 1) ⟨0, 0⟩).f0 then insP (upsL cs lo k) ((cs.getD k ⟨0, 0⟩).f0 - lo.f0, (if (cs.getD (k + 1) ⟨0, 0⟩).f1 < (cs.getD k ⟨0, 0⟩).f1 then (cs.getD (k + 1) ⟨0, 0⟩).f1 else (cs.getD k ⟨0, 0⟩).f1) - lo.f1) else upsL cs lo k) := ⟨rfl⟩
          have HCb := Aside0.mk (getD_bd cs HBd.out (k + 1))
          have HCa := Aside0.mk (getD_bd cs HBd.out k)
          generalize cs.getD (k + 1) ⟨0, 0⟩ = cb at HU HCb hx1 hx2 hy1 hy2 ⊢
          generalize hca : cs.getD k ⟨0, 0⟩ = ca at HU HCa hx1 hx2 hy1 hy2 ⊢
          go_wp2_with fail
          have hx1 : wr.drew.cell? (ad.add (k * 2)) = some (.int .i64 ca.f0) := hx1
          have hx2 : wr.drew.cell? ⟨(ad.add (k * 2)).block, (ad.add (k * 2)).off + 1, none⟩ = some (.int .i64 ca.f1) := hx2
          have hy1 : wr.drew.cell? (ad.add ((k + 1) * 2)) = some (.int .i64 cb.f0) := hy1
          have hy2 : wr.drew.cell? ⟨(ad.add ((k + 1) * 2)).block, (ad.add ((k + 1) * 2)).off + 1, none⟩ = some (.int .i64 cb.f1) := hy2
          have HM2 := Aside0.mk (HM.out.below (below_drew (Below.refl _ _)))
          have BL2 := Aside0.mk (blk_drew BL.out)
          have HO2 := Aside0.mk (Kd.R_drew HO.out)
          have HB2 := Aside0.mk (below_drew1 HB.out)
          clear HM BL HO HB
          refine start_ (n := 13) (S := fun w' => w'.cell? (ad.add (k * 2)) = some (.int .i64 ca.f0) ∧ w'.cell? ⟨(ad.add (k * 2)).block, (ad.add (k * 2)).off + 1, none⟩ = some (.int .i64 ca.f1) ∧ w'.cell? (ad.add ((k + 1) * 2)) = some (.int .i64 cb.f0) ∧ w'.cell? ⟨(ad.add ((k + 1) * 2)).block, (ad.add ((k + 1) * 2)).off + 1, none⟩ = some (.int .i64 cb.f1)) (ds := []) #[Ff, Ff, Ff, Ff, Ff, Ff, Ff, Ff, Ff, Ff, Ff, Ff, Ff] (by kernel_rfl) rfl rfl ⟨hx1, hx2, hy1, hy2⟩ (fun hHeld => ?_)
          refine with_tabW cells_tab12 cells_bits12 (fun HT_ HW_ => ?_)
          generalize wr.drew = W5 at HM2 BL2 HO2 HB2 hx1 hx2 hy1 hy2 hHeld ⊢
          have hS : ∀ w', Below W5.heap.size W5 w' → w'.cell? (ad.add (k * 2)) = some (.int .i64 ca.f0) ∧ w'.cell? ⟨(ad.add (k * 2)).block, (ad.add (k * 2)).off + 1, none⟩ = some (.int .i64 ca.f1) ∧ w'.cell? (ad.add ((k + 1) * 2)) = some (.int .i64 cb.f0) ∧ w'.cell? ⟨(ad.add ((k + 1) * 2)).block, (ad.add ((k + 1) * 2)).off + 1, none⟩ = some (.int .i64 cb.f1) := fun w' hb => ⟨(hb.cell (World.block_lt_of_cell? W5 _ hx1)).trans hx1, (hb.cell (World.block_lt_of_cell? W5 _ hx2)).trans hx2, (hb.cell (World.block_lt_of_cell? W5 _ hy1)).trans hy1, (hb.cell (World.block_lt_of_cell? W5 _ hy2)).trans hy2⟩
          refine pZ (i := 0) (N := some 44) #[Tt, Ff, Ff, Ff, Ff, Ff, Ff, Ff, Ff, Ff, Ff, Ff, Ff] ?_
          refine pZ (i := 1) (N := some 45) #[Tt, Tt, Ff, Ff, Ff, Ff, Ff, Ff, Ff, Ff, Ff, Ff, Ff] ?_
          refine pZ (i := 2) (N := some 46) #[Tt, Tt, Tt, Ff, Ff, Ff, Ff, Ff, Ff, Ff, Ff, Ff, Ff] ?_
          refine pZ (i := 4) (N := some 48) #[Tt, Tt, Tt, Ff, Tt, Ff, Ff, Ff, Ff, Ff, Ff, Ff, Ff] ?_
          refine pZ (i := 5) (N := some 49) #[Tt, Tt, Tt, Ff, Tt, Tt, Ff, Ff, Ff, Ff, Ff, Ff, Ff] ?_
          refine pZ (i := 6) (N := some 50) #[Tt, Tt, Tt, Ff, Tt, Tt, Tt, Ff, Ff, Ff, Ff, Ff, Ff] ?_
          refine pZ (i := 7) (N := some 51) #[Tt, Tt, Tt, Ff, Tt, Tt, Tt, Tt, Ff, Ff, Ff, Ff, Ff] ?_
          refine tZ (i := 3) (N := some 47) #[Tt, Tt, Tt, Tt, Tt, Tt, Tt, Tt, Ff, Ff, Ff, Ff, Ff] ?_
          refine tZ (i := 8) (N := some 52) #[Tt, Tt, Tt, Tt, Tt, Tt, Tt, Tt, Tt, Ff, Ff, Ff, Ff] ?_
          refine join_ (σ := Nat × Nat) 2 #[Tt, Tt, Tt, Tt, Tt, Tt, Tt, Tt, Tt, Tt, Tt, Ff, Ff] (fun s_ => [(9, .pointer (some ⟨s_.1, 0, none⟩)), (10, .pointer (some ⟨s_.2, 0, none⟩))]) (fun s_ w' => Below W5.heap.size W5 w' ∧ w'.heap[s_.1]? = some (.cells #[.int .i64 0, .int .i64 0] 41 (0, 0)) ∧ w'.heap[s_.2]? = some (.cells #[.int .i64 0, .int .i64 0] 41 (0, 0)) ∧ W5.heap.size ≤ s_.1 ∧ W5.heap.size ≤ s_.2 ∧ s_.1 ≠ s_.2) ?_ ?_
          rotate_left
          · intro hCont
            refine two_ (i := 9) (j := 10) (Ni := some 9) (Nj := some 10) #[Tt, Tt, Tt, Tt, Tt, Tt, Tt, Tt, Tt, Tt, Ff, Ff, Ff] #[Tt, Tt, Tt, Tt, Tt, Tt, Tt, Tt, Tt, Ff, Tt, Ff, Ff] rfl rfl rfl rfl (two_of HT_.out (by kernel_rfl)) (by decide) (by decide) (fun K hK => ?_) (fun K hK => ?_)
            · refine box_step ?hg (N := 9) ?hd (cs := #[.int .i64 0, .int .i64 0]) (t := 41) ?hr ?_; (case hd => rfl); (case hg => rfl); (case hr => first | (go_simp; done) | (go_simp; rfl))
              intro b9 hg w6 hbox hb
              have hg : W5.heap.size ≤ b9 := by rw [hg]; exact Nat.le_refl _
              refine hK.out _ _ (hS _ hb) (fun hHeld => ?_)
              clear hK K
              refine norm_ (a' := _) (by show Act.put _ (some 9) _ = _; simp only [Act.put, List.setIfInBounds_toArray, List.set_cons_zero, List.set_cons_succ, i64_w, i32_w]; rfl) ?_
              refine one_ (i := 10) (N := some 10) #[Tt, Tt, Tt, Tt, Tt, Tt, Tt, Tt, Tt, Tt, Tt, Ff, Ff] rfl rfl (one_of HT_.out (by kernel_rfl)) (by decide) (fun K hK => ?_)
              refine box_step ?hg (N := 10) ?hd (cs := #[.int .i64 0, .int .i64 0]) (t := 41) ?hr ?_; (case hd => rfl); (case hg => rfl); (case hr => first | (go_simp; done) | (go_simp; rfl))
              intro b10 hg2 w7 hbox2 hb2
              have hne : b9 < b10 := by rw [hg2]; exact blk_lt hbox
              have hb3 := below_step hb hb2
              refine hK.out _ _ (hS _ hb3) (fun hHeld => ?_)
              clear hK K
              refine norm_ (a' := _) (by show Act.put _ (some 10) _ = _; simp only [Act.put, List.setIfInBounds_toArray, List.set_cons_zero, List.set_cons_succ, i64_w, i32_w]; rfl) ?_
              exact norm_ (by simp only [putAll, Act.put, List.setIfInBounds_toArray, List.set_cons_zero, List.set_cons_succ]) (hCont (b9, b10) _ ⟨hb3, (blk_below hbox hb2), hbox2, hg, (Nat.le_trans hg (Nat.le_of_lt hne)), Nat.ne_of_lt hne⟩)
            · refine box_step ?hg (N := 10) ?hd (cs := #[.int .i64 0, .int .i64 0]) (t := 41) ?hr ?_; (case hd => rfl); (case hg => rfl); (case hr => first | (go_simp; done) | (go_simp; rfl))
              intro b10 hg w6 hbox hb
              have hg : W5.heap.size ≤ b10 := by rw [hg]; exact Nat.le_refl _
              refine hK.out _ _ (hS _ hb) (fun hHeld => ?_)
              clear hK K
              refine norm_ (a' := _) (by show Act.put _ (some 10) _ = _; simp only [Act.put, List.setIfInBounds_toArray, List.set_cons_zero, List.set_cons_succ, i64_w, i32_w]; rfl) ?_
              refine one_ (i := 9) (N := some 9) #[Tt, Tt, Tt, Tt, Tt, Tt, Tt, Tt, Tt, Tt, Tt, Ff, Ff] rfl rfl (one_of HT_.out (by kernel_rfl)) (by decide) (fun K hK => ?_)
              refine box_step ?hg (N := 9) ?hd (cs := #[.int .i64 0, .int .i64 0]) (t := 41) ?hr ?_; (case hd => rfl); (case hg => rfl); (case hr => first | (go_simp; done) | (go_simp; rfl))
              intro b9 hg2 w7 hbox2 hb2
              have hne : b10 < b9 := by rw [hg2]; exact blk_lt hbox
              have hb3 := below_step hb hb2
              refine hK.out _ _ (hS _ hb3) (fun hHeld => ?_)
              clear hK K
              refine norm_ (a' := _) (by show Act.put _ (some 9) _ = _; simp only [Act.put, List.setIfInBounds_toArray, List.set_cons_zero, List.set_cons_succ, i64_w, i32_w]; rfl) ?_
              exact norm_ (by simp only [putAll, Act.put, List.setIfInBounds_toArray, List.set_cons_zero, List.set_cons_succ]) (hCont (b9, b10) _ ⟨hb3, hbox2, (blk_below hbox hb2), (Nat.le_trans hg (Nat.le_of_lt hne)), hg, Nat.ne_of_gt hne⟩)
          rintro ⟨b9, b10⟩ w8 ⟨hb8, h9, h10, g9, g10, hne⟩
          have hHeld := hS w8 hb8
          refine norm_ (a' := ?_) ?_ ?_
          rotate_left
          · simp only [putAll, Act.put, List.setIfInBounds_toArray, List.set_cons_zero, List.set_cons_succ]
            rfl
          have hne2 := hne.symm
          have hs90 : w8.cell? ⟨b9, 0, none⟩ = some (.int .i64 0) := (blk_cell h9 0).trans rfl
          have hs91 : w8.cell? ⟨b9, 1, none⟩ = some (.int .i64 0) := (blk_cell h9 1).trans rfl
          have hf90 := blk_frozen h9 0
          have hf91 := blk_frozen h9 1
          have hs100 : w8.cell? ⟨b10, 0, none⟩ = some (.int .i64 0) := (blk_cell h10 0).trans rfl
          have hs101 : w8.cell? ⟨b10, 1, none⟩ = some (.int .i64 0) := (blk_cell h10 1).trans rfl
          have hf100 := blk_frozen h10 0
          have hf101 := blk_frozen h10 1
          refine one_ (i := 11) (N := none) #[Tt, Tt, Tt, Tt, Tt, Tt, Tt, Tt, Tt, Tt, Tt, Tt, Ff] rfl rfl (one_of HT_.out (by kernel_rfl)) (by decide) (fun K hK => ?_)
          refine skip_ (w1 := ?_) (by rfl) rfl ?_ ?_
          rotate_left
          · go_simp
            rfl
          refine hK.out _ _ (hS _ (below_set (below_set hb8 g9) g9)) (fun hHeld => ?_)
          clear hK K
          refine one_ (i := 12) (N := none) #[Tt, Tt, Tt, Tt, Tt, Tt, Tt, Tt, Tt, Tt, Tt, Tt, Tt] rfl rfl (one_of HT_.out (by kernel_rfl)) (by decide) (fun K hK => ?_)
          refine skip_ (w1 := ?_) (by rfl) rfl ?_ ?_
          rotate_left
          · go_simp
            rfl
          refine hK.out _ _ (hS _ (below_set (below_set (below_set (below_set hb8 g9) g9) g10) g10)) (fun hHeld => ?_)
          clear hK K
          refine done_ (done_of HT_.out (by kernel_rfl)) ?_
          have hb9 := below_set (j := 1) (v := .int .i64 cb.f1) (below_set (j := 0) (v := .int .i64 cb.f0) (below_set (j := 1) (v := .int .i64 ca.f1) (below_set (j := 0) (v := .int .i64 ca.f0) hb8 g9) g9) g10) g10
          generalize hW9 : (((w8.setCell ⟨b9, 0, none⟩ (.int .i64 ca.f0)).setCell ⟨b9, 1, none⟩ (.int .i64 ca.f1)).setCell ⟨b10, 0, none⟩ (.int .i64 cb.f0)).setCell ⟨b10, 1, none⟩ (.int .i64 cb.f1) = W9 at hb9 ⊢
          have K9 : W9.heap[b9]? = some (.cells #[.int .i64 ca.f0, .int .i64 ca.f1] 41 (0, 0)) := by rw [← hW9]; exact blk_far (blk_far (blk_put (cs := #[.int .i64 ca.f0, .int .i64 0]) (blk_put (cs := #[.int .i64 0, .int .i64 0]) h9 0 _ rfl) 1 _ rfl) hne _) hne _
          have K10 : W9.heap[b10]? = some (.cells #[.int .i64 cb.f0, .int .i64 cb.f1] 41 (0, 0)) := by rw [← hW9]; exact blk_put (cs := #[.int .i64 cb.f0, .int .i64 0]) (blk_put (cs := #[.int .i64 0, .int .i64 0]) (blk_far (blk_far h10 hne2 _) hne2 _) 0 _ rfl) 1 _ rfl
          have HB9 := Aside0.mk (below_step HB2.out hb9)
          have HO9 := Aside0.mk (Kd.R_below HO2.out hb9)
          have BL9 := Aside0.mk (blk_below BL2.out hb9)
          have HM9 := Aside0.mk (HM2.out.below hb9)
          have hd0 : W9.cell? ⟨b9, 0, none⟩ = some (.int .i64 ca.f0) := (blk_cell K9 0).trans rfl
          have hd1 : W9.cell? ⟨b9, 1, none⟩ = some (.int .i64 ca.f1) := (blk_cell K9 1).trans rfl
          have hd2 : W9.cell? ⟨b10, 0, none⟩ = some (.int .i64 cb.f0) := (blk_cell K10 0).trans rfl
          have hd3 : W9.cell? ⟨b10, 1, none⟩ = some (.int .i64 cb.f1) := (blk_cell K10 1).trans rfl
          have hd4 : W9.cell? ⟨bl, 0, none⟩ = some (.int .i64 lo.f0) := (blk_cell BL9.out 0).trans rfl
          have hd5 : W9.cell? ⟨bl, 1, none⟩ = some (.int .i64 lo.f1) := (blk_cell BL9.out 1).trans rfl
          clear hW9 K9 K10 hs90 hs91 hf90 hf91 hs100 hs101 hf100 hf101 hb8 h9 h10 hHeld HT_ HW_ hS hx1 hx2 hy1 hy2 HM2 BL2 HO2 HB2 hb9
          by_cases heq : ca.f0 = cb.f0
          · have heqb : (ca.f0 == cb.f0) = true := by rw [heq]; exact beq_self_eq_true _
            generalize hq : (if cb.f1 < ca.f1 then cb.f1 else ca.f1) = q at HU
            have hqb : -1000 ≤ q ∧ q ≤ 1000 := by have h1 := HCa.out; have h2 := HCb.out; rw [← hq]; constructor <;> split <;> omega
            have hx0 : -2000 ≤ ca.f0 - lo.f0 ∧ ca.f0 - lo.f0 ≤ 2000 := by have h1 := HCa.out; have h2 := HLo.out; omega
            have hy0 : -2000 ≤ q - lo.f1 ∧ q - lo.f1 ≤ 2000 := by have h2 := HLo.out; omega
            generalize hX : ca.f0 - lo.f0 = X at HU hx0
            generalize hY : q - lo.f1 = Y at HU hy0
            have e1 : wrap64 (ca.f0 - lo.f0) = X := by rw [hX]; unfold wrap64; omega
            have e2 : wrap64 (q - lo.f1) = Y := by rw [hY]; unfold wrap64; omega
            have hln := upsL_len cs lo k
            obtain ⟨wt, hst, hM2, ht⟩ := HM9.out.store cornKeyed Tryd.underlying39 (by unfold maxLen; omega) cornV_inj (cornKey X Y (i64_wf X (by omega) (by omega)) (i64_wf Y (by omega) (by omega))) (.bool true)
            have hst2 : (Instr.mapUpdate 39 (.map (some bm)) (.agg #[.int .i64 X, .int .i64 Y]) (.bool true)).run Tryd.prog W9 = .ok () wt := hst
            have HU2 : upsL cs lo (k + 1) = insP (upsL cs lo k) (X, Y) := by rw [HU.out, if_pos heq]
            have HMn : Aside0 (MapIs wt Tryd.prog 41 bm (upsL cs lo (k + 1)).length cornV (inP (upsL cs lo (k + 1)))) := ⟨by
              rw [HU2]
              unfold insP
              by_cases hin : (X, Y) ∈ upsL cs lo k
              · rw [if_pos hin]
                have e : (inP (upsL cs lo k) (X, Y)).isSome = true := by unfold inP; rw [if_pos hin]; rfl
                rw [e, if_pos rfl] at hM2
                exact hM2.congr (fun a kl _ => by unfold inP; by_cases ha : a = (X, Y) <;> simp [ha, hin])
              · rw [if_neg hin]
                have e : (inP (upsL cs lo k) (X, Y)).isSome = false := by unfold inP; rw [if_neg hin]; rfl
                rw [e, if_neg (by simp)] at hM2
                exact hM2.congr (fun a kl _ => by unfold inP; by_cases ha : a = (X, Y) <;> by_cases hb : a ∈ upsL cs lo k <;> simp [ha, hb])⟩
            have HOn := Aside0.mk (Kd.R_grown HO9.out ht.grown (fun k hk e => by have := GM.out; cases e; omega))
            have BLn := Aside0.mk (blk_grown BL9.out ht.grown (fun e => by have := GM.out; cases e; omega))
            have HBn : Aside0 (Below w.heap.size w wt) := ⟨((FrameBut.of_below (O := fun k => k = bm) HB9.out).turned ht (.inl rfl)).toBelow (Nat.le_refl _) (fun k hk e => by have h1 := GM.out; have h2 := GL.out; omega)⟩
            clear hst hM2 ht HM9 HO9 BL9 HB9 hqb hx0 hy0 hln HU2 HU hX hY heq
            go_wp2_with fail
            go_roundg (s.size - (k + 1))
            case measure => omega
            case rel => exact ⟨k + 1, by omega, by omega, by go_num, HMn, BLn, HOn, HBn⟩
          · have heqb : (ca.f0 == cb.f0) = false := by rw [beq_eq_false_iff_ne]; exact heq
            go_wp2_with fail
            go_roundg (s.size - (k + 1))
            case measure => omega
            case rel => exact ⟨k + 1, by omega, by omega, by go_num, ⟨by rw [HU.out, if_neg heq]; exact HM9.out⟩, BL9, HO9, HB9⟩
        · have hltz : ¬ (k : Int) < (s.size : Int) := by omega
          have hke : k = s.size := by omega
          subst hke
          have HUl := Aside0.mk (upsL_len cs lo s.size)
          obtain ⟨U, hUE⟩ : ∃ U, upsL cs lo s.size = U := ⟨_, rfl⟩
          have HUE := Aside0.mk hUE
          rw [hUE] at HM HUl
          clear hUE
          clear BL HLo HK HB3 hz1 hz2
          go_wp2_with fail
          have HO0 : Aside0 (Kd.R k41 41 (wr.alloc (.cells #[] 41)) w.heap.size (fun k => k ≠ bm) (.slice (some ⟨wr.heap.size, 0, none⟩) 0 0) (rowsL U 0)) := ⟨Kd.R_mono (R_zeroC wr _ HB.out.size) (fun k hk => by have := HM.out.lt; omega)⟩
          have HM0 := Aside0.mk (HM.out.alloc (.cells #[] 41))
          have HB0 := Aside0.mk (below_alloc HB.out (.cells #[] 41))
          clear HM HB HO
          generalize wr.heap.size = bo at HO0 ⊢
          generalize wr.alloc (.cells #[] 41) = W0 at HM0 HB0 HO0 ⊢
          go_loopg [11, 75] 40 (fun gg u11 u75 wr => ∃ y : Nat, y ≤ 40 ∧ 40 - y ≤ gg ∧ u75 = .int .i64 y ∧ Aside0 (MapIs wr Tryd.prog 41 bm U.length cornV (inP U)) ∧ Aside0 (Kd.R k41 41 wr w.heap.size (fun k => k ≠ bm) u11 (rowsL U y)) ∧ Aside0 (Below w.heap.size w wr))
          case atStart => exact ⟨0, Nat.zero_le _, by omega, rfl, HM0, HO0, HB0⟩
          case round =>
            clear HM0 HO0 HB0
            obtain ⟨y, hy, hgy, rfl, HM, HO, HB⟩ := hrel
            by_cases hlt : y < 40
            · have hltz : (y : Int) < 40 := by omega
              go_wp2_with fail
              have HO0 : Aside0 (Kd.R k41 41 wr w.heap.size (fun k => k ≠ bm) u11 (rowsL U y ++ (scanL U y 0).2)) := ⟨by show Kd.R _ _ _ _ _ _ (rowsL U y ++ []); rw [List.append_nil]; exact HO.out⟩
              clear HO
              go_loopg [11, 13, 78] 40 (fun gg u11 u13 u78 wr => ∃ x : Nat, x ≤ 40 ∧ 40 - x ≤ gg ∧ u78 = .int .i64 x ∧ u13 = .bool (scanL U y x).1 ∧ Aside0 (MapIs wr Tryd.prog 41 bm U.length cornV (inP U)) ∧ Aside0 (Kd.R k41 41 wr w.heap.size (fun k => k ≠ bm) u11 (rowsL U y ++ (scanL U y x).2)) ∧ Aside0 (Below w.heap.size w wr))
              case atStart => exact ⟨0, Nat.zero_le _, by omega, rfl, rfl, HM, HO0, HB⟩
              case round =>
                clear HM HO0 HB
                obtain ⟨x, hx, hgx, rfl, rfl, HM, HO, HB⟩ := hrel
                by_cases hxt : x < 40
                · have hxtz : (x : Int) < 40 := by omega
                  have hlk : (Instr.lookup 39 (.map (some bm)) (.agg #[.int .i64 (x : Int), .int .i64 (y : Int)]) false).run Tryd.prog wr = .ok (.bool (decide (((x : Int), (y : Int)) ∈ U))) wr := by
                    have h := HM.out.look cornKeyed Tryd.underlying39 (z := .bool false) (by kernel_rfl) (cornKey (x : Int) (y : Int) (i64_wf _ (by omega) (by omega)) (i64_wf _ (by omega) (by omega)))
                    have e : (inP U ((x : Int), (y : Int))).getD (.bool false) = .bool (decide (((x : Int), (y : Int)) ∈ U)) := by unfold inP; by_cases hin : ((x : Int), (y : Int)) ∈ U <;> simp [hin]
                    rw [e] at h
                    exact h
                  have hl1 := rowsL_len U y
                  have hl2 := scanL_len U y x
                  have hll : (rowsL U y ++ (scanL U y x).2).length ≤ 2000 := by rw [List.length_append]; omega
                  have hsc : scanL U y (x + 1) = (if decide (((x : Int), (y : Int)) ∈ U) then !(scanL U y x).1 else (scanL U y x).1, if (if decide (((x : Int), (y : Int)) ∈ U) then !(scanL U y x).1 else (scanL U y x).1) then (scanL U y x).2 ++ [⟨x, y⟩] else (scanL U y x).2) := by rw [scanL]; simp only [decide_eq_true_eq]
                  generalize (scanL U y x).1 = b0 at hsc ⊢
                  generalize (scanL U y x).2 = l0 at hsc hll HO ⊢
                  generalize decide (((x : Int), (y : Int)) ∈ U) = d0 at hsc hlk
                  clear hl1 hl2
                  obtain ⟨A, c2, rfl⟩ := Kd.R_slice HO.out
                  generalize hxs : rowsL U y ++ l0 = xs at HO hll ⊢
                  cases d0 with
                  | false =>
                    cases b0 with
                    | false =>
                      go_wp2_with fail
                      go_roundg (40 - (x + 1))
                      case measure => omega
                      case rel => exact ⟨x + 1, by omega, by omega, by go_num, by rw [hsc]; rfl, HM, ⟨by rw [hsc]; show Kd.R _ _ _ _ _ _ (rowsL U y ++ l0); rw [hxs]; exact HO.out⟩, HB⟩
                    | true =>
                      go_wp2_with (first | (at_builtin; refine Kd.R_append k41 (w0 := w) w.heap.size rfl (.tmp 89) (.tmp 93) 29 41 (.agg #[(.int .i64 0), (.int .i64 0)]) 16 rfl Tryd.underlying29 info41 rfl (by decide) (by omega) (.slice A xs.length c2) xs ⟨(x : Int), (y : Int)⟩ [.int .i64 (x : Int), .int .i64 (y : Int)] (fun k => k ≠ bm) (fun _ => False) rfl rfl ?aP (fun _ hk => hk.elim) ?aF ?aO ?aB ?aS ?aL ?_; (case aP => exact k41_mkM _ _ _ (⟨(x : Int), (y : Int)⟩ : S41)); (case aF => exact fun k hk => by have h_ := HM.out.lt; first | omega | (simp at hk; omega)); (case aO => exact HO.out); (case aB => exact HB.out); (case aS => exact HB.out.size); (case aL => omega); intro v1 w1 ho hb hg hat; have HOn := Aside0.mk ho; have HBn := Aside0.mk hb; have HMn := Aside0.mk (HM.out.move (hg.block bm HM.out.lt (Kd.R_away HO.out (fun _ hk => hk)))); clear ho hb hg hat))
                      go_roundg (40 - (x + 1))
                      case measure => omega
                      case rel => exact ⟨x + 1, by omega, by omega, by go_num, by rw [hsc]; rfl, HMn, ⟨by rw [hsc]; show Kd.R _ _ _ _ _ _ (rowsL U y ++ (l0 ++ [⟨x, y⟩])); rw [← List.append_assoc, hxs]; exact HOn.out⟩, HBn⟩
                  | true =>
                    cases b0 with
                    | false =>
                      go_wp2_with (first | (at_builtin; refine Kd.R_append k41 (w0 := w) w.heap.size rfl (.tmp 89) (.tmp 93) 29 41 (.agg #[(.int .i64 0), (.int .i64 0)]) 16 rfl Tryd.underlying29 info41 rfl (by decide) (by omega) (.slice A xs.length c2) xs ⟨(x : Int), (y : Int)⟩ [.int .i64 (x : Int), .int .i64 (y : Int)] (fun k => k ≠ bm) (fun _ => False) rfl rfl ?aP (fun _ hk => hk.elim) ?aF ?aO ?aB ?aS ?aL ?_; (case aP => exact k41_mkM _ _ _ (⟨(x : Int), (y : Int)⟩ : S41)); (case aF => exact fun k hk => by have h_ := HM.out.lt; first | omega | (simp at hk; omega)); (case aO => exact HO.out); (case aB => exact HB.out); (case aS => exact HB.out.size); (case aL => omega); intro v1 w1 ho hb hg hat; have HOn := Aside0.mk ho; have HBn := Aside0.mk hb; have HMn := Aside0.mk (HM.out.move (hg.block bm HM.out.lt (Kd.R_away HO.out (fun _ hk => hk)))); clear ho hb hg hat))
                      go_roundg (40 - (x + 1))
                      case measure => omega
                      case rel => exact ⟨x + 1, by omega, by omega, by go_num, by rw [hsc]; rfl, HMn, ⟨by rw [hsc]; show Kd.R _ _ _ _ _ _ (rowsL U y ++ (l0 ++ [⟨x, y⟩])); rw [← List.append_assoc, hxs]; exact HOn.out⟩, HBn⟩
                    | true =>
                      go_wp2_with fail
                      go_roundg (40 - (x + 1))
                      case measure => omega
                      case rel => exact ⟨x + 1, by omega, by omega, by go_num, by rw [hsc]; rfl, HM, ⟨by rw [hsc]; show Kd.R _ _ _ _ _ _ (rowsL U y ++ l0); rw [hxs]; exact HO.out⟩, HB⟩
                · have hxtz : ¬ (x : Int) < 40 := by omega
                  have hxe : x = 40 := by omega
                  subst hxe
                  go_wp2_with fail
                  go_roundg (40 - (y + 1))
                  case measure => omega
                  case rel => exact ⟨y + 1, by omega, by omega, by go_num, HM, ⟨by rw [rowsL_suc]; exact HO.out⟩, HB⟩
            · have hltz : ¬ (y : Int) < 40 := by omega
              have hye : y = 40 := by omega
              subst hye
              go_wp2_with fail
              go_ret
              rw [HLoE.out, HUE.out]
              exact ⟨_, rfl, Kd.R_mono HO.out (fun _ _ => trivial), HB.out⟩
def impl_cells.f (a0 : ByteArray) : Option (List S41) := if a0.size ≤ 40 then some (cellsW a0.data.toList) else none
theorem impl_cells.calls (a0 : ByteArray) (r : List S41) (w : World) (h : impl_cells.f a0 = some r) :
    Calls Tryd.prog 39 #[.string a0] w fun e w' => ∃ v0_ : Value, e = .returned v0_ ∧ Kd.R k41 41 w' w.heap.size (fun _ => True) v0_ r ∧ Below w.heap.size w w' := by
  unfold impl_cells.f at h
  split at h
  · rename_i h0
    obtain rfl := Option.some.inj h
    exact cells_any a0 h0 w
  · cases h

end Go.Proofs.YtbnkdfmomcmmaaaDoor.P


namespace Go.Proofs.YtbnkdfmomcmmaaaDoor.P
open Go.RowKit Go.Proofs.YtbnkdfmomcmmaaaDoorW.PrintWords Go.Proofs.YtbnkdfmomcmmaaaDoorW.PrintLast Go.Proofs.YtbnkdfmomcmmaaaDoorW.PrintMore
attribute [local go_sem] max2_int min2_int max_two min_two max_three min_three max_four min_four   -- for this text's walks alone
set_option linter.unusedVariables false
set_option linter.unusedSimpArgs false

def impl_CellsOfLoop.f (a0 : ByteArray) : Option ((List (S41)) × Bool) := (impl_IsLoop.f a0).bind fun t226 => (if t226 = true then ((impl_cells.f a0).bind fun t227 => (some (t227, true))) else (some (([] : List (S41)), false)))
set_option maxHeartbeats 8000000 in
set_option maxRecDepth 100000 in
theorem impl_CellsOfLoop.calls (a0 : ByteArray) (r1 : List (S41)) (r2 : Bool) (w : World) (h : impl_CellsOfLoop.f a0 = some (r1, r2)) :
    Calls Tryd.prog 21 #[.string a0] w fun e w' => ∃ v0_ : Value, e = .returned (.tuple #[v0_, .bool r2]) ∧ Kd.R k41 41 w' w.heap.size (fun _ => True) v0_ r1 ∧ Below w.heap.size w w' := by
  have HB := Aside0.mk (Below.refl w.heap.size w)
  have H : ((impl_IsLoop.f a0).bind fun t226 => (if t226 = true then ((impl_cells.f a0).bind fun t227 => (some (t227, true))) else (some (([] : List (S41)), false)))) = some (r1, r2) := h
  clear h
  replace H := Option.bind_eq_some_iff.mp H
  obtain ⟨t226, A20, H⟩ := H
  replace H : (if t226 = true then ((impl_cells.f a0).bind fun t227 => (some (t227, true))) else (some (([] : List (S41)), false))) = some (r1, r2) := H
  have A2 := Aside0.mk A20
  clear A20
  by_cases c3 : t226 = true
  · subst c3
    have H1 : ((impl_cells.f a0).bind fun t227 => (some (t227, true))) = some (r1, r2) := by rw [if_pos rfl] at H; exact H
    clear H
    have H := H1
    clear H1
    replace H := Option.bind_eq_some_iff.mp H
    obtain ⟨t227, A40, H⟩ := H
    replace H : (some (t227, true)) = some (r1, r2) := H
    have A4 := Aside0.mk A40
    clear A40
    simp only [Option.some.injEq, Prod.mk.injEq] at H
    obtain ⟨rfl, rfl⟩ := H
    go_enter Tryd.func21, Tryd.ntmps21
    go_wp2_with (first | ((with_reducible refine gate_callee (f := 11) rfl ?_); refine goesL_ (some 5) rfl rfl Tryd.func11 (by kernel_rfl) rfl #[.string a0] rfl (by (try simp only [List.map_toArray, List.map_cons, List.map_nil]); first | done | rfl | (simp only [List.length_drop, List.length_take]; rfl)) ?_; (with_reducible refine (impl_IsLoop.calls a0 true _ A2.out).mono ?_); rintro e w5 ⟨rfl, hb⟩; refine ⟨_, rfl, ?_⟩; have n0_ := Aside0.mk (below_step (by repeat (first | (with_reducible first | exact HB.out | apply below_alloc | apply pw_below_drewN | apply below_drew1) | exact HB.out)) hb); clear HB; have HB := n0_; clear n0_; (try clear hb); (try clear hb2); (try clear hk); (try clear hi)) | ((with_reducible refine gate_callee (f := 39) rfl ?_); refine goesL_ (some 8) rfl rfl Tryd.func39 (by kernel_rfl) rfl #[.string a0] rfl (by (try simp only [List.map_toArray, List.map_cons, List.map_nil]); first | done | rfl | (simp only [List.length_drop, List.length_take]; rfl)) ?_; (with_reducible refine (impl_cells.calls a0 t227 _ A4.out).mono ?_); rintro e w6 ⟨v228, rfl, ho0, hb⟩; refine ⟨_, rfl, ?_⟩; have n0_ := Aside0.mk (Kd.R_lower ho0 (below_size (by repeat (first | (with_reducible first | exact HB.out | apply below_alloc | apply pw_below_drewN | apply below_drew1) | exact HB.out)))); have n1_ := Aside0.mk (below_step (by repeat (first | (with_reducible first | exact HB.out | apply below_alloc | apply pw_below_drewN | apply below_drew1) | exact HB.out)) hb); clear HB; have HO229 := n0_; have HB := n1_; clear n0_ n1_; (try clear hb); (try clear hb2); (try clear hk); (try clear hi); (try clear ho0)))
    go_ret2
    exact ⟨_, by first | rfl | (simp [errW_none, errW_some] <;> rfl) | (simp [*, errW_none, errW_some] <;> rfl), by (with_reducible repeat (first | apply Kd.R_alloc | apply Kd.R_drewN | apply Kd.R_drew)); exact HO229.out, by repeat (first | (with_reducible first | exact HB.out | apply below_alloc | apply pw_below_drewN | apply below_drew1) | exact HB.out)⟩
  · replace c3 := Bool.eq_false_iff.mpr c3
    subst c3
    have H1 : (some (([] : List (S41)), false)) = some (r1, r2) := by rw [if_neg (show ¬ (false = true) by decide)] at H; exact H
    clear H
    have H := H1
    clear H1
    simp only [Option.some.injEq, Prod.mk.injEq] at H
    obtain ⟨rfl, rfl⟩ := H
    go_enter Tryd.func21, Tryd.ntmps21
    go_wp2_with (first | ((with_reducible refine gate_callee (f := 11) rfl ?_); refine goesL_ (some 5) rfl rfl Tryd.func11 (by kernel_rfl) rfl #[.string a0] rfl (by (try simp only [List.map_toArray, List.map_cons, List.map_nil]); first | done | rfl | (simp only [List.length_drop, List.length_take]; rfl)) ?_; (with_reducible refine (impl_IsLoop.calls a0 false _ A2.out).mono ?_); rintro e w7 ⟨rfl, hb⟩; refine ⟨_, rfl, ?_⟩; have n0_ := Aside0.mk (below_step (by repeat (first | (with_reducible first | exact HB.out | apply below_alloc | apply pw_below_drewN | apply below_drew1) | exact HB.out)) hb); clear HB; have HB := n0_; clear n0_; (try clear hb); (try clear hb2); (try clear hk); (try clear hi)))
    go_ret2
    exact ⟨_, by first | rfl | (simp [errW_none, errW_some] <;> rfl) | (simp [*, errW_none, errW_some] <;> rfl), by first | exact Kd.R_nil _ _ _ _ _ | exact Kd.N_nil _ _ _ _ _ | exact Kd.V_nil _ _ _ _ _ | exact Kd.Q_nil _ _ _ _ _ | exact Kd.S_nil _ _ _ _ _, by repeat (first | (with_reducible first | exact HB.out | apply below_alloc | apply pw_below_drewN | apply below_drew1) | exact HB.out)⟩

end Go.Proofs.YtbnkdfmomcmmaaaDoor.P


namespace Go.Proofs.YtbnkdfmomcmmaaaDoor.P
open Go.RowKit Go.Proofs.YtbnkdfmomcmmaaaDoorW.PrintWords Go.Proofs.YtbnkdfmomcmmaaaDoorW.PrintLast Go.Proofs.YtbnkdfmomcmmaaaDoorW.PrintMore
attribute [local go_sem] max2_int min2_int max_two min_two max_three min_three max_four min_four   -- for this text's walks alone
set_option linter.unusedVariables false
set_option linter.unusedSimpArgs false

def impl_AreaOfLoop.f (a0 : ByteArray) : Option (Int × Bool) := (impl_CellsOfLoop.f a0).bind fun bt230 => (some ((bt230.1.length : Int), bt230.2))
set_option maxHeartbeats 8000000 in
set_option maxRecDepth 100000 in
theorem impl_AreaOfLoop.calls (a0 : ByteArray) (r1 : Int) (r2 : Bool) (w : World) (h : impl_AreaOfLoop.f a0 = some (r1, r2)) :
    Calls Tryd.prog 17 #[.string a0] w fun e w' => e = .returned (.tuple #[.int .i64 r1, .bool r2]) ∧ Below w.heap.size w w' := by
  have HB := Aside0.mk (Below.refl w.heap.size w)
  have H : ((impl_CellsOfLoop.f a0).bind fun bt230 => (some ((bt230.1.length : Int), bt230.2))) = some (r1, r2) := h
  clear h
  replace H := Option.bind_eq_some_iff.mp H
  obtain ⟨⟨t230, t231⟩, A20, H⟩ := H
  replace H : (some ((t230.length : Int), t231)) = some (r1, r2) := H
  have A2 := Aside0.mk A20
  clear A20
  simp only [Option.some.injEq, Prod.mk.injEq] at H
  obtain ⟨rfl, rfl⟩ := H
  go_enter Tryd.func17, Tryd.ntmps17
  go_wp2_with (first | ((with_reducible refine gate_callee (f := 21) rfl ?_); refine goesL_ (some 8) rfl rfl Tryd.func21 (by kernel_rfl) rfl #[.string a0] rfl (by (try simp only [List.map_toArray, List.map_cons, List.map_nil]); first | done | rfl | (simp only [List.length_drop, List.length_take]; rfl)) ?_; (with_reducible refine (impl_CellsOfLoop.calls a0 t230 t231 _ A2.out).mono ?_); rintro e w3 ⟨v232, rfl, ho0, hb⟩; refine ⟨_, rfl, ?_⟩; have n0_ := Aside0.mk (Kd.R_lower ho0 (below_size (by repeat (first | (with_reducible first | exact HB.out | apply below_alloc | apply pw_below_drewN | apply below_drew1) | exact HB.out)))); have n1_ := Aside0.mk (below_step (by repeat (first | (with_reducible first | exact HB.out | apply below_alloc | apply pw_below_drewN | apply below_drew1) | exact HB.out)) hb); clear HB; have HO233 := n0_; have HB := n1_; clear n0_ n1_; (try clear hb); (try clear hb2); (try clear hk); (try clear hi); (try clear ho0); obtain ⟨Ao4, co4, eo4⟩ := Kd.R_slice HO233.out; subst eo4))
  go_ret2
  exact ⟨by first | rfl | (simp [errW_none, errW_some] <;> rfl) | (simp [*, errW_none, errW_some] <;> rfl), by repeat (first | (with_reducible first | exact HB.out | apply below_alloc | apply pw_below_drewN | apply below_drew1) | exact HB.out)⟩

end Go.Proofs.YtbnkdfmomcmmaaaDoor.P


namespace Go.Proofs.YtbnkdfmomcmmaaaDoor.P
open Go.RowKit Go.Proofs.YtbnkdfmomcmmaaaDoorW.PrintWords Go.Proofs.YtbnkdfmomcmmaaaDoorW.PrintLast Go.Proofs.YtbnkdfmomcmmaaaDoorW.PrintMore
attribute [local go_sem] max2_int min2_int max_two min_two max_three min_three max_four min_four   -- for this text's walks alone
set_option linter.unusedVariables false
set_option linter.unusedSimpArgs false

def laws_FnExactAreaOfLoop.f (k : Nat) (a0 : ByteArray) : Option (Bool) := if (a0.size : Int) > 1000000 then (some true) else ((spec_AreaOfLoop.f k a0).bind fun bt234 => ((impl_AreaOfLoop.f a0).bind fun bt236 => (if bt236.1 = bt234.1 then (if (bt236.2 != bt234.2) = true then (some false) else (some true)) else (some false))))
theorem laws_FnExactAreaOfLoop.mono : ∀ a0 k, LeO (laws_FnExactAreaOfLoop.f k a0) (laws_FnExactAreaOfLoop.f (k + 1) a0) := by
  intro a0 k
  unfold laws_FnExactAreaOfLoop.f
  repeat' first
      | (with_reducible exact spec_AreaOfLoop.mono _ _)
      | (with_reducible exact LeO.refl _)
      | (with_reducible exact LeO.none _)
      | (with_reducible refine LeO.ite ?_ ?_)
      | (with_reducible refine LeO.bind ?_ (fun _ => ?_))
      | exact spec_AreaOfLoop.mono _ _
      | exact LeO.none _
      | refine LeO.ite ?_ ?_
      | refine LeO.bind ?_ (fun _ => ?_)
set_option maxHeartbeats 8000000 in
set_option maxRecDepth 100000 in
theorem laws_FnExactAreaOfLoop.calls (k : Nat) (a0 : ByteArray) (r : Bool) (w : World) (h : laws_FnExactAreaOfLoop.f k a0 = some r) :
    Calls Tryd.prog 6 #[.string a0] w fun e w' => e = .returned (.bool r) ∧ Below w.heap.size w w' := by
  have HB := Aside0.mk (Below.refl w.heap.size w)
  have H : (if (a0.size : Int) > 1000000 then (some true) else ((spec_AreaOfLoop.f k a0).bind fun bt234 => ((impl_AreaOfLoop.f a0).bind fun bt236 => (if bt236.1 = bt234.1 then (if (bt236.2 != bt234.2) = true then (some false) else (some true)) else (some false))))) = some r := h
  clear h
  by_cases c2 : (a0.size : Int) > 1000000
  · rw [if_pos c2] at H
    have c2b0 : decide (1000000 < (a0.size : Int)) = true := decide_eq_true c2
    have c2b1 : decide (1000000 < a0.size) = true := decide_eq_true (by omega)
    clear c2
    obtain rfl := Option.some.inj H
    go_enter Tryd.func6, Tryd.ntmps6
    go_wp2
    go_ret
    exact ⟨by first | rfl | (simp [errW_none, errW_some] <;> rfl) | (simp [*, errW_none, errW_some] <;> rfl), by repeat (first | (with_reducible first | exact HB.out | apply below_alloc | apply pw_below_drewN | apply below_drew1) | exact HB.out)⟩
  · rw [if_neg c2] at H
    have c2b0 : decide (1000000 < (a0.size : Int)) = false := decide_eq_false c2
    have c2b1 : decide (1000000 < a0.size) = false := decide_eq_false (by omega)
    clear c2
    replace H := Option.bind_eq_some_iff.mp H
    obtain ⟨⟨t234, t235⟩, A30, H⟩ := H
    replace H : ((impl_AreaOfLoop.f a0).bind fun bt236 => (if bt236.1 = t234 then (if (bt236.2 != t235) = true then (some false) else (some true)) else (some false))) = some r := H
    have A3 := Aside0.mk A30
    clear A30
    replace H := Option.bind_eq_some_iff.mp H
    obtain ⟨⟨t236, t237⟩, A40, H⟩ := H
    replace H : (if t236 = t234 then (if (t237 != t235) = true then (some false) else (some true)) else (some false)) = some r := H
    have A4 := Aside0.mk A40
    clear A40
    by_cases c5 : t236 = t234
    · rw [if_pos c5] at H
      have c5b0 : (t236 == t234) = true := beq_iff_eq.mpr c5
      have c5b1 : (t236 != t234) = false := bne_eq_false_iff_eq.mpr c5
      clear c5
      by_cases c6 : (t237 != t235) = true
      · rw [if_pos c6] at H
        have c6b0 : (t237 != t235) = true := c6
        (try (have c6b1 : decide (t237 = t235) = false := by simpa using c6))
        (try (have c6b2 : (t237 == t235) = false := by simpa using c6))
        (try (have c6b3 : ¬ (t237 = t235) := by simpa using c6))
        clear c6
        obtain rfl := Option.some.inj H
        go_enter Tryd.func6, Tryd.ntmps6
        go_wp2_with (first | ((with_reducible refine gate_callee (f := 16) rfl ?_); refine goesL_ (some 12) rfl rfl Tryd.func16 (by kernel_rfl) rfl #[.string a0] rfl (by (try simp only [List.map_toArray, List.map_cons, List.map_nil]); first | done | rfl | (simp only [List.length_drop, List.length_take]; rfl)) ?_; (with_reducible refine (spec_AreaOfLoop.calls k a0 t234 t235 _ A3.out).mono ?_); rintro e w7 ⟨rfl, hb⟩; refine ⟨_, rfl, ?_⟩; have n0_ := Aside0.mk (below_step (by repeat (first | (with_reducible first | exact HB.out | apply below_alloc | apply pw_below_drewN | apply below_drew1) | exact HB.out)) hb); clear HB; have HB := n0_; clear n0_; (try clear hb); (try clear hb2); (try clear hk); (try clear hi)) | ((with_reducible refine gate_callee (f := 17) rfl ?_); refine goesL_ (some 17) rfl rfl Tryd.func17 (by kernel_rfl) rfl #[.string a0] rfl (by (try simp only [List.map_toArray, List.map_cons, List.map_nil]); first | done | rfl | (simp only [List.length_drop, List.length_take]; rfl)) ?_; (with_reducible refine (impl_AreaOfLoop.calls a0 t236 t237 _ A4.out).mono ?_); rintro e w8 ⟨rfl, hb⟩; refine ⟨_, rfl, ?_⟩; have n0_ := Aside0.mk (below_step (by repeat (first | (with_reducible first | exact HB.out | apply below_alloc | apply pw_below_drewN | apply below_drew1) | exact HB.out)) hb); clear HB; have HB := n0_; clear n0_; (try clear hb); (try clear hb2); (try clear hk); (try clear hi)))
        go_ret
        exact ⟨by first | rfl | (simp [errW_none, errW_some] <;> rfl) | (simp [*, errW_none, errW_some] <;> rfl), by repeat (first | (with_reducible first | exact HB.out | apply below_alloc | apply pw_below_drewN | apply below_drew1) | exact HB.out)⟩
      · rw [if_neg c6] at H
        have c6b0 : (t237 != t235) = false := by simpa using c6
        (try (have c6b1 : decide (t237 = t235) = true := by simpa using c6))
        (try (have c6b2 : (t237 == t235) = true := by simpa using c6))
        clear c6
        obtain rfl := Option.some.inj H
        go_enter Tryd.func6, Tryd.ntmps6
        go_wp2_with (first | ((with_reducible refine gate_callee (f := 16) rfl ?_); refine goesL_ (some 12) rfl rfl Tryd.func16 (by kernel_rfl) rfl #[.string a0] rfl (by (try simp only [List.map_toArray, List.map_cons, List.map_nil]); first | done | rfl | (simp only [List.length_drop, List.length_take]; rfl)) ?_; (with_reducible refine (spec_AreaOfLoop.calls k a0 t234 t235 _ A3.out).mono ?_); rintro e w9 ⟨rfl, hb⟩; refine ⟨_, rfl, ?_⟩; have n0_ := Aside0.mk (below_step (by repeat (first | (with_reducible first | exact HB.out | apply below_alloc | apply pw_below_drewN | apply below_drew1) | exact HB.out)) hb); clear HB; have HB := n0_; clear n0_; (try clear hb); (try clear hb2); (try clear hk); (try clear hi)) | ((with_reducible refine gate_callee (f := 17) rfl ?_); refine goesL_ (some 17) rfl rfl Tryd.func17 (by kernel_rfl) rfl #[.string a0] rfl (by (try simp only [List.map_toArray, List.map_cons, List.map_nil]); first | done | rfl | (simp only [List.length_drop, List.length_take]; rfl)) ?_; (with_reducible refine (impl_AreaOfLoop.calls a0 t236 t237 _ A4.out).mono ?_); rintro e w10 ⟨rfl, hb⟩; refine ⟨_, rfl, ?_⟩; have n0_ := Aside0.mk (below_step (by repeat (first | (with_reducible first | exact HB.out | apply below_alloc | apply pw_below_drewN | apply below_drew1) | exact HB.out)) hb); clear HB; have HB := n0_; clear n0_; (try clear hb); (try clear hb2); (try clear hk); (try clear hi)))
        go_ret
        exact ⟨by first | rfl | (simp [errW_none, errW_some] <;> rfl) | (simp [*, errW_none, errW_some] <;> rfl), by repeat (first | (with_reducible first | exact HB.out | apply below_alloc | apply pw_below_drewN | apply below_drew1) | exact HB.out)⟩
    · rw [if_neg c5] at H
      have c5b0 : (t236 == t234) = false := beq_eq_false_iff_ne.mpr c5
      have c5b1 : (t236 != t234) = true := bne_iff_ne.mpr c5
      obtain rfl := Option.some.inj H
      go_enter Tryd.func6, Tryd.ntmps6
      go_wp2_with (first | ((with_reducible refine gate_callee (f := 16) rfl ?_); refine goesL_ (some 12) rfl rfl Tryd.func16 (by kernel_rfl) rfl #[.string a0] rfl (by (try simp only [List.map_toArray, List.map_cons, List.map_nil]); first | done | rfl | (simp only [List.length_drop, List.length_take]; rfl)) ?_; (with_reducible refine (spec_AreaOfLoop.calls k a0 t234 t235 _ A3.out).mono ?_); rintro e w11 ⟨rfl, hb⟩; refine ⟨_, rfl, ?_⟩; have n0_ := Aside0.mk (below_step (by repeat (first | (with_reducible first | exact HB.out | apply below_alloc | apply pw_below_drewN | apply below_drew1) | exact HB.out)) hb); clear HB; have HB := n0_; clear n0_; (try clear hb); (try clear hb2); (try clear hk); (try clear hi)) | ((with_reducible refine gate_callee (f := 17) rfl ?_); refine goesL_ (some 17) rfl rfl Tryd.func17 (by kernel_rfl) rfl #[.string a0] rfl (by (try simp only [List.map_toArray, List.map_cons, List.map_nil]); first | done | rfl | (simp only [List.length_drop, List.length_take]; rfl)) ?_; (with_reducible refine (impl_AreaOfLoop.calls a0 t236 t237 _ A4.out).mono ?_); rintro e w12 ⟨rfl, hb⟩; refine ⟨_, rfl, ?_⟩; have n0_ := Aside0.mk (below_step (by repeat (first | (with_reducible first | exact HB.out | apply below_alloc | apply pw_below_drewN | apply below_drew1) | exact HB.out)) hb); clear HB; have HB := n0_; clear n0_; (try clear hb); (try clear hb2); (try clear hk); (try clear hi)))
      go_ret
      exact ⟨by first | rfl | (simp [errW_none, errW_some] <;> rfl) | (simp [*, errW_none, errW_some] <;> rfl), by repeat (first | (with_reducible first | exact HB.out | apply below_alloc | apply pw_below_drewN | apply below_drew1) | exact HB.out)⟩

def laws_FnExactAreaOfLoop.Pure : Prop := ∀ (a0 : ByteArray), a0.size ≤ 140737488351232 → ∃ k, laws_FnExactAreaOfLoop.f k a0 = some true
theorem laws_FnExactAreaOfLoop.walk (P : laws_FnExactAreaOfLoop.Pure) (a0 : ByteArray) (w : World) (w0 : a0.size ≤ 140737488351232) :
    Calls Tryd.prog 6 #[.string a0] w fun e w' => e = .returned (.bool true) ∧ Below w.heap.size w w' := by
  obtain ⟨k, h⟩ := P a0 w0
  refine (laws_FnExactAreaOfLoop.calls k a0 true w h).mono ?_
  rintro e w' ⟨rfl, hd⟩
  exact ⟨rfl, hd⟩

end Go.Proofs.YtbnkdfmomcmmaaaDoor.P


namespace Go.Proofs.YtbnkdfmomcmmaaaDoor.P
open Go.RowKit Go.Proofs.YtbnkdfmomcmmaaaDoorW.PrintWords Go.Proofs.YtbnkdfmomcmmaaaDoorW.PrintLast Go.Proofs.YtbnkdfmomcmmaaaDoorW.PrintMore
attribute [local go_sem] max2_int min2_int max_two min_two max_three min_three max_four min_four   -- for this text's walks alone
set_option linter.unusedVariables false
set_option linter.unusedSimpArgs false

def rowG (q : Nat → Nat → Bool) (y : Nat) : Nat → List S41
  | 0 => []
  | x + 1 => if q y x then rowG q y x ++ [⟨x, y⟩] else rowG q y x
def gridG (q : Nat → Nat → Bool) (W : Nat) : Nat → List S41
  | 0 => []
  | y + 1 => gridG q W y ++ rowG q y W
theorem rowG_more (q : Nat → Nat → Bool) (y W : Nat) (h : ∀ x, W ≤ x → q y x = false) : ∀ d, rowG q y (W + d) = rowG q y W
  | 0 => rfl
  | d + 1 => by
    show (if q y (W + d) then _ else _) = _
    rw [h (W + d) (by omega), if_neg (by simp)]; exact rowG_more q y W h d
theorem rowG_none (q : Nat → Nat → Bool) (y : Nat) : ∀ W, (∀ x, x < W → q y x = false) → rowG q y W = []
  | 0, _ => rfl
  | W + 1, h => by
    show (if q y W then _ else _) = _
    rw [h W (by omega), if_neg (by simp), rowG_none q y W (fun x hx => h x (by omega))]
theorem gridG_more (q : Nat → Nat → Bool) (W H : Nat) (h : ∀ y x, H ≤ y → q y x = false) : ∀ d, gridG q W (H + d) = gridG q W H
  | 0 => rfl
  | d + 1 => by
    show gridG q W (H + d) ++ rowG q (H + d) W = _
    rw [rowG_none q (H + d) W (fun x _ => h _ _ (by omega)), List.append_nil]; exact gridG_more q W H h d
theorem gridG_wide (q : Nat → Nat → Bool) (W V : Nat) (h : ∀ y x, W ≤ x → q y x = false) (hv : W ≤ V) : ∀ H, gridG q V H = gridG q W H
  | 0 => rfl
  | H + 1 => by
    show gridG q V H ++ rowG q H V = gridG q W H ++ rowG q H W
    rw [gridG_wide q W V h hv H, show V = W + (V - W) by omega, rowG_more q H W (h H)]
theorem rowG_mem (q : Nat → Nat → Bool) (y : Nat) (c : S41) : ∀ W, c ∈ rowG q y W ↔ ∃ x, x < W ∧ q y x = true ∧ c = ⟨x, y⟩
  | 0 => ⟨(fun h => by cases h), fun ⟨x, h, _⟩ => absurd h (by omega)⟩
  | W + 1 => by
    show c ∈ (if q y W then _ else _) ↔ _
    cases hq : q y W with
    | false =>
      rw [if_neg (by simp), rowG_mem q y c W]
      constructor
      · rintro ⟨x, h1, h2, h3⟩; exact ⟨x, by omega, h2, h3⟩
      · rintro ⟨x, h1, h2, h3⟩
        refine ⟨x, ?_, h2, h3⟩
        by_cases e : x = W
        · subst e; rw [hq] at h2; cases h2
        · omega
    | true =>
      rw [if_pos rfl, List.mem_append, List.mem_singleton, rowG_mem q y c W]
      constructor
      · rintro (⟨x, h1, h2, h3⟩ | h)
        · exact ⟨x, by omega, h2, h3⟩
        · exact ⟨W, by omega, hq, h⟩
      · rintro ⟨x, h1, h2, h3⟩
        by_cases e : x = W
        · subst e; exact .inr h3
        · exact .inl ⟨x, by omega, h2, h3⟩
theorem gridG_mem (q : Nat → Nat → Bool) (W : Nat) (c : S41) : ∀ H, c ∈ gridG q W H ↔ ∃ x y, x < W ∧ y < H ∧ q y x = true ∧ c = ⟨x, y⟩
  | 0 => ⟨(fun h => by cases h), fun ⟨x, y, _, h, _⟩ => absurd h (by omega)⟩
  | H + 1 => by
    show c ∈ gridG q W H ++ rowG q H W ↔ _
    rw [List.mem_append, gridG_mem q W c H, rowG_mem]
    constructor
    · rintro (⟨x, y, h1, h2, h3⟩ | ⟨x, h1, h2, h3⟩)
      · exact ⟨x, y, h1, by omega, h3⟩
      · exact ⟨x, H, h1, by omega, h2, h3⟩
    · rintro ⟨x, y, h1, h2, h3, h4⟩
      by_cases e : y = H
      · subst e; exact .inr ⟨x, h1, h3, h4⟩
      · exact .inl ⟨x, y, h1, by omega, h3, h4⟩
theorem upsL_mem (cs : List S41) (lo : S41) (p : Int × Int) : ∀ k, p ∈ upsL cs lo k ↔ ∃ i, i < k ∧ (cs.getD (i + 1) ⟨0, 0⟩).f0 = (cs.getD i ⟨0, 0⟩).f0 ∧ p = ((cs.getD i ⟨0, 0⟩).f0 - lo.f0, minI (cs.getD i ⟨0, 0⟩).f1 (cs.getD (i + 1) ⟨0, 0⟩).f1 - lo.f1)
  | 0 => ⟨(fun h => by cases h), fun ⟨i, h, _⟩ => absurd h (by omega)⟩
  | k + 1 => by
    have ih := upsL_mem cs lo p k
    unfold upsL
    by_cases he : (cs.getD k ⟨0, 0⟩).f0 = (cs.getD (k + 1) ⟨0, 0⟩).f0
    · rw [if_pos he]
      have hi : ∀ (S : List (Int × Int)) (r : Int × Int), p ∈ insP S r ↔ p ∈ S ∨ p = r := fun S r => by
        unfold insP
        split
        · rename_i h
          constructor
          · exact .inl
          · rintro (h2 | rfl)
            · exact h2
            · exact h
        · rw [List.mem_cons]; exact Or.comm
      rw [hi, ih]
      constructor
      · rintro (⟨i, h1, h2, h3⟩ | h)
        · exact ⟨i, by omega, h2, h3⟩
        · exact ⟨k, by omega, he.symm, h⟩
      · rintro ⟨i, h1, h2, h3⟩
        by_cases e : i = k
        · subst e; exact .inr h3
        · exact .inl ⟨i, by omega, h2, h3⟩
    · rw [if_neg he, ih]
      constructor
      · rintro ⟨i, h1, h2, h3⟩; exact ⟨i, by omega, h2, h3⟩
      · rintro ⟨i, h1, h2, h3⟩
        refine ⟨i, ?_, h2, h3⟩
        by_cases e : i = k
        · subst e; exact (he h2.symm).elim
        · omega
def xW (cs : List S41) (i : Nat) : Int := (cs.getD i ⟨0, 0⟩).f0
def yW (cs : List S41) (i : Nat) : Int := (cs.getD i ⟨0, 0⟩).f1
theorem ups_at {cs : List S41} {n : Nat} (R : Ring (xW cs) (yW cs) n) (lo : S41) (x y : Nat) : ((x : Int), (y : Int)) ∈ upsL cs lo n ↔ Ring.atE (xW cs) (yW cs) n (y + lo.f1) (x + lo.f0) = true := by
  rw [upsL_mem, R.atE_iff]
  constructor
  · rintro ⟨i, h1, h2, h3⟩
    rw [Prod.mk.injEq] at h3
    refine ⟨i, h1, ?_, ?_⟩
    · unfold vE
      rw [Bool.and_eq_true, decide_eq_true_iff, decide_eq_true_iff]
      exact ⟨h2, by unfold yW; omega⟩
    · unfold xW; omega
  · rintro ⟨i, h1, h2, h3⟩
    unfold vE at h2
    rw [Bool.and_eq_true, decide_eq_true_iff, decide_eq_true_iff] at h2
    refine ⟨i, h1, h2.1, ?_⟩
    unfold xW yW at *
    rw [Prod.mk.injEq]
    omega
def inQ (cs : List S41) (lo : S41) (n : Nat) (y x : Nat) : Bool := Ring.ins (xW cs) (yW cs) n (y + lo.f1) (x + lo.f0)
theorem scan_in {cs : List S41} {n : Nat} (R : Ring (xW cs) (yW cs) n) (lo : S41) (hlo : ∀ i, i < n → lo.f0 ≤ xW cs i) (y : Nat) : ∀ x, (scanL (upsL cs lo n) y x).1 = Ring.ins (xW cs) (yW cs) n (y + lo.f1) (x + lo.f0 - 1) ∧ (scanL (upsL cs lo n) y x).2 = rowG (inQ cs lo n) y x
  | 0 => ⟨(Ring.ins_low (y + lo.f1) (((0 : Nat) : Int) + lo.f0 - 1) (fun i hi => by have := hlo i hi; omega)).symm, rfl⟩
  | x + 1 => by
    obtain ⟨h1, h2⟩ := scan_in R lo hlo y x
    have hu := ups_at R lo x y
    have hs := Ring.ins_step (xW cs) (yW cs) n (y + lo.f1) (x + lo.f0 - 1)
    rw [show (x : Int) + lo.f0 - 1 + 1 = x + lo.f0 by omega, ← h1] at hs
    have hb : (if ((x : Int), (y : Int)) ∈ upsL cs lo n then !(scanL (upsL cs lo n) y x).1 else (scanL (upsL cs lo n) y x).1) = inQ cs lo n y x := by
      unfold inQ
      rw [hs]
      by_cases h : ((x : Int), (y : Int)) ∈ upsL cs lo n
      · rw [if_pos h, hu.1 h, Bool.xor_true]
      · rw [if_neg h]
        have : Ring.atE (xW cs) (yW cs) n (y + lo.f1) (x + lo.f0) = false := by
          cases e : Ring.atE (xW cs) (yW cs) n (y + lo.f1) (x + lo.f0) with
          | false => rfl
          | true => exact (h (hu.2 e)).elim
        rw [this, Bool.xor_false]
    rw [scanL, rowG]
    dsimp only
    rw [hb, h2]
    refine ⟨?_, rfl⟩
    unfold inQ
    rw [show ((x + 1 : Nat) : Int) + lo.f0 - 1 = x + lo.f0 by omega]
theorem rows_in {cs : List S41} {n : Nat} (R : Ring (xW cs) (yW cs) n) (lo : S41) (hlo : ∀ i, i < n → lo.f0 ≤ xW cs i) : ∀ y, rowsL (upsL cs lo n) y = gridG (inQ cs lo n) 40 y
  | 0 => rfl
  | y + 1 => by rw [rowsL, gridG, rows_in R lo hlo y, (scan_in R lo hlo y 40).2]
structure BoxW (cs : List S41) (n : Nat) (lo hi : S41) : Prop where
  l0 : ∀ i, i < n → lo.f0 ≤ xW cs i
  l1 : ∀ i, i < n → lo.f1 ≤ yW cs i
  h0 : ∀ i, i < n → xW cs i ≤ hi.f0
  h1 : ∀ i, i < n → yW cs i ≤ hi.f1
  a0 : ∃ i, i < n ∧ xW cs i = lo.f0
  a1 : ∃ i, i < n ∧ yW cs i = lo.f1
  b0 : ∃ i, i < n ∧ xW cs i = hi.f0
  b1 : ∃ i, i < n ∧ yW cs i = hi.f1
theorem cells_box {cs : List S41} {n : Nat} (R : Ring (xW cs) (yW cs) n) (n40 : n ≤ 40) {lo hi : S41} (B : BoxW cs n lo hi) : rowsL (upsL cs lo n) 40 = gridG (inQ cs lo n) (hi.f0 - lo.f0).toNat (hi.f1 - lo.f1).toNat := by
  obtain ⟨i, hi', hx⟩ := B.a0
  obtain ⟨j, hj, hjx⟩ := B.b0
  obtain ⟨k, hk, hky⟩ := B.a1
  obtain ⟨m, hm, hmy⟩ := B.b1
  have w0 := (R.wide_le i j (by omega) (by omega)).1
  have w1 := (R.wide_le k m (by omega) (by omega)).2
  have p0 := B.h0 i hi'
  have p1 := B.h1 k hk
  rw [rows_in R lo B.l0]
  have e1 : ∀ y x, (hi.f0 - lo.f0).toNat ≤ x → inQ cs lo n y x = false := fun y x h => R.ins_high _ _ (fun i hi => by have := B.h0 i hi; omega)
  have e2 : ∀ y x, (hi.f1 - lo.f1).toNat ≤ y → inQ cs lo n y x = false := fun y x h => R.ins_below _ _ (fun i hi => by have := B.h1 i hi; omega)
  rw [gridG_wide (inQ cs lo n) (hi.f0 - lo.f0).toNat 40 e1 (by omega)]
  have := gridG_more (inQ cs lo n) (hi.f0 - lo.f0).toNat (hi.f1 - lo.f1).toNat e2 (40 - (hi.f1 - lo.f1).toNat)
  rw [show (hi.f1 - lo.f1).toNat + (40 - (hi.f1 - lo.f1).toNat) = 40 by omega] at this
  exact this
theorem cells_wide {cs : List S41} {n : Nat} (R : Ring (xW cs) (yW cs) n) (n40 : n ≤ 40) {lo hi : S41} (B : BoxW cs n lo hi) : (∀ c ∈ rowsL (upsL cs lo n) 40, 0 ≤ c.f0 ∧ c.f0 + 1 ≤ hi.f0 - lo.f0 ∧ 0 ≤ c.f1 ∧ c.f1 + 1 ≤ hi.f1 - lo.f1) ∧ (∃ c ∈ rowsL (upsL cs lo n) 40, c.f0 + 1 = hi.f0 - lo.f0) ∧ (∃ c ∈ rowsL (upsL cs lo n) 40, c.f1 + 1 = hi.f1 - lo.f1) := by
  rw [cells_box R n40 B]
  have out0 : ∀ y x, Ring.ins (xW cs) (yW cs) n y x = true → lo.f0 ≤ x ∧ x < hi.f0 ∧ y < hi.f1 ∧ lo.f1 ≤ y := fun y x h => by
    refine ⟨?_, ?_, ?_, ?_⟩
    · by_cases e : lo.f0 ≤ x
      · exact e
      · rw [Ring.ins_low y x (fun i hi => by have := B.l0 i hi; omega)] at h; cases h
    · by_cases e : x < hi.f0
      · exact e
      · rw [R.ins_high y x (fun i hi => by have := B.h0 i hi; omega)] at h; cases h
    · by_cases e : y < hi.f1
      · exact e
      · rw [R.ins_below y x (fun i hi => by have := B.h1 i hi; omega)] at h; cases h
    · by_cases e : lo.f1 ≤ y
      · exact e
      · have hz : Ring.ins (xW cs) (yW cs) n y x = false := parN_none n (fun i hi => by
          have h1 := B.l1 i hi
          have h2 : lo.f1 ≤ yW cs (i + 1) := by
            by_cases e2 : i + 1 < n
            · exact B.l1 _ e2
            · have : i + 1 = n := by omega
              rw [this, R.clY]; exact B.l1 0 (by have := R.n4; omega)
          unfold vE minI
          rw [decide_eq_false (show ¬ (if yW cs (i + 1) < yW cs i then yW cs (i + 1) else yW cs i) = y by split <;> omega), Bool.and_false]; rfl)
        rw [hz] at h; cases h
  refine ⟨fun c hc => ?_, ?_, ?_⟩
  · obtain ⟨x, y, h1, h2, h3, rfl⟩ := (gridG_mem _ _ _ _).1 hc
    show (0 : Int) ≤ (x : Int) ∧ (x : Int) + 1 ≤ _ ∧ (0 : Int) ≤ (y : Int) ∧ (y : Int) + 1 ≤ _
    omega
  · obtain ⟨y, hy⟩ := R.wide_cell hi.f0 B.h0 B.b0
    have := out0 _ _ hy
    refine ⟨⟨((hi.f0 - 1 - lo.f0).toNat : Nat), ((y - lo.f1).toNat : Nat)⟩, (gridG_mem _ _ _ _).2 ⟨_, _, by omega, by omega, ?_, rfl⟩, ?_⟩
    · unfold inQ
      rw [show (((y - lo.f1).toNat : Nat) : Int) + lo.f1 = y by omega, show (((hi.f0 - 1 - lo.f0).toNat : Nat) : Int) + lo.f0 = hi.f0 - 1 by omega]
      exact hy
    · show (((hi.f0 - 1 - lo.f0).toNat : Nat) : Int) + 1 = _
      omega
  · obtain ⟨x, hx⟩ := R.high_cell hi.f0 hi.f1 B.h0 B.b0 B.h1 B.b1
    have := out0 _ _ hx
    refine ⟨⟨((x - lo.f0).toNat : Nat), ((hi.f1 - 1 - lo.f1).toNat : Nat)⟩, (gridG_mem _ _ _ _).2 ⟨_, _, by omega, by omega, ?_, rfl⟩, ?_⟩
    · unfold inQ
      rw [show (((hi.f1 - 1 - lo.f1).toNat : Nat) : Int) + lo.f1 = hi.f1 - 1 by omega, show (((x - lo.f0).toNat : Nat) : Int) + lo.f0 = x by omega]
      exact hx
    · show (((hi.f1 - 1 - lo.f1).toNat : Nat) : Int) + 1 = _
      omega

end Go.Proofs.YtbnkdfmomcmmaaaDoor.P


namespace Go.Proofs.YtbnkdfmomcmmaaaDoor.P
open Go.RowKit Go.Proofs.YtbnkdfmomcmmaaaDoorW.PrintWords Go.Proofs.YtbnkdfmomcmmaaaDoorW.PrintLast Go.Proofs.YtbnkdfmomcmmaaaDoorW.PrintMore
attribute [local go_sem] max2_int min2_int max_two min_two max_three min_three max_four min_four   -- for this text's walks alone
set_option linter.unusedVariables false
set_option linter.unusedSimpArgs false

theorem nextC_unit (c : S41) (b : UInt8) (hb : stepBW b = true) (hx : -1000 ≤ c.f0 ∧ c.f0 ≤ 1000) (hy : -1000 ≤ c.f1 ∧ c.f1 ≤ 1000) : ((nextC c (b.toNat : Int)).f0 = c.f0 ∧ ((nextC c (b.toNat : Int)).f1 = c.f1 + 1 ∨ (nextC c (b.toNat : Int)).f1 = c.f1 - 1)) ∨ ((nextC c (b.toNat : Int)).f1 = c.f1 ∧ ((nextC c (b.toNat : Int)).f0 = c.f0 + 1 ∨ (nextC c (b.toNat : Int)).f0 = c.f0 - 1)) := by
  have h := next_some c (b.toNat : Int)
  generalize nextC c (b.toNat : Int) = d at h ⊢
  unfold impl_Corner_next.f at h
  have e1 : wrap64 (c.f1 - 1) = c.f1 - 1 := by unfold wrap64; omega
  have e2 : wrap64 (c.f0 + 1) = c.f0 + 1 := by unfold wrap64; omega
  have e3 : wrap64 (c.f1 + 1) = c.f1 + 1 := by unfold wrap64; omega
  have e4 : wrap64 (c.f0 - 1) = c.f0 - 1 := by unfold wrap64; omega
  rw [e1, e2, e3, e4] at h
  clear e1 e2 e3 e4
  repeat' split at h
  all_goals (simp only [Option.some.injEq, Prod.mk.injEq] at h; omega)
theorem ring_of (s : ByteArray) (h : LoopW s) : Ring (xW (cornersL s.data.toList)) (yW (cornersL s.data.toList)) s.size := by
  obtain ⟨h4, h40, hst, hend, hinj⟩ := h
  have hl : s.data.toList.length = s.size := by simp
  have hcl := cornersL_len s.data.toList
  have hbd := cornersL_bound s.data.toList (by omega)
  have hwk : ∀ i (hi : i < s.data.toList.length), (cornersL s.data.toList).getD (i + 1) ⟨0, 0⟩ = nextC ((cornersL s.data.toList).getD i ⟨0, 0⟩) ((s.data.toList[i].toNat : Nat) : Int) := fun i hi => walk_at s.data.toList ⟨0, 0⟩ i hi
  have h00 : (cornersL s.data.toList).getD 0 ⟨0, 0⟩ = ⟨0, 0⟩ := rfl
  generalize cornersL s.data.toList = cs at *
  refine ⟨h4, ?_, ?_, fun i hi => ?_, fun i j hij hj hx hy => ?_⟩
  · show (cs.getD _ _).f0 = (cs.getD _ _).f0
    rw [h00, hend]
  · show (cs.getD _ _).f1 = (cs.getD _ _).f1
    rw [h00, hend]
  · have hil : i < s.data.toList.length := by omega
    have hci : i < cs.length := by omega
    have hg : cs.getD i ⟨0, 0⟩ = cs[i] := by rw [List.getD_eq_getElem?_getD, List.getElem?_eq_getElem hci]; rfl
    have hb := hbd cs[i] (List.getElem_mem hci)
    have := nextC_unit cs[i] s.data.toList[i] (hst _ (List.getElem_mem hil)) hb.1 hb.2
    rw [← hg, ← hwk i hil] at this
    exact this
  · exact hinj i j hij hj (by unfold pairC; rw [Prod.mk.injEq]; exact ⟨hx, hy⟩)
theorem lowL_le (cs : List S41) : ∀ k i, i < k → (lowL cs k).f0 ≤ (cs.getD i ⟨0, 0⟩).f0 ∧ (lowL cs k).f1 ≤ (cs.getD i ⟨0, 0⟩).f1
  | 0, i, h => absurd h (by omega)
  | k + 1, i, h => by
    show (if _ then _ else _) ≤ _ ∧ (if _ then _ else _) ≤ _
    by_cases e : i = k
    · subst e; constructor <;> split <;> omega
    · have := lowL_le cs k i (by omega)
      constructor <;> split <;> omega
theorem lowL_at0 (cs : List S41) : ∀ k, ∃ i, (i < k ∨ i = 0) ∧ (cs.getD i ⟨0, 0⟩).f0 = (lowL cs k).f0
  | 0 => ⟨0, .inr rfl, rfl⟩
  | k + 1 => by
    obtain ⟨i, h1, h2⟩ := lowL_at0 cs k
    by_cases h : (cs.getD k ⟨0, 0⟩).f0 < (lowL cs k).f0
    · exact ⟨k, .inl (by omega), by show _ = (if _ then _ else _); rw [if_pos h]⟩
    · exact ⟨i, by omega, by show _ = (if _ then _ else _); rw [if_neg h]; exact h2⟩
theorem lowL_at1 (cs : List S41) : ∀ k, ∃ i, (i < k ∨ i = 0) ∧ (cs.getD i ⟨0, 0⟩).f1 = (lowL cs k).f1
  | 0 => ⟨0, .inr rfl, rfl⟩
  | k + 1 => by
    obtain ⟨i, h1, h2⟩ := lowL_at1 cs k
    by_cases h : (cs.getD k ⟨0, 0⟩).f1 < (lowL cs k).f1
    · exact ⟨k, .inl (by omega), by show _ = (if _ then _ else _); rw [if_pos h]⟩
    · exact ⟨i, by omega, by show _ = (if _ then _ else _); rw [if_neg h]; exact h2⟩
theorem mx_at (f : Nat → Int) : ∀ k, ∃ M, (∀ i, i < k + 1 → f i ≤ M) ∧ ∃ i, i < k + 1 ∧ f i = M
  | 0 => ⟨f 0, fun i hi => by rw [show i = 0 by omega]; exact Int.le_refl _, 0, by omega, rfl⟩
  | k + 1 => by
    obtain ⟨M, h1, i, h2, h3⟩ := mx_at f k
    by_cases h : f (k + 1) ≤ M
    · refine ⟨M, fun j hj => ?_, i, by omega, h3⟩
      by_cases e : j = k + 1
      · subst e; exact h
      · exact h1 j (by omega)
    · refine ⟨f (k + 1), fun j hj => ?_, k + 1, by omega, rfl⟩
      by_cases e : j = k + 1
      · subst e; exact Int.le_refl _
      · have := h1 j (by omega); omega
theorem box_of {cs : List S41} {n : Nat} (R : Ring (xW cs) (yW cs) n) : ∃ hi, BoxW cs n (lowL cs (n + 1)) hi := by
  have n4 := R.n4
  have back : ∀ i, (i < n + 1 ∨ i = 0) → ∃ j, j < n ∧ xW cs j = xW cs i ∧ yW cs j = yW cs i := fun i hi => by
    by_cases h : i < n
    · exact ⟨i, h, rfl, rfl⟩
    · have : i = n := by omega
      subst this
      exact ⟨0, by omega, R.clX.symm, R.clY.symm⟩
  obtain ⟨M, m1, m2⟩ := mx_at (xW cs) (n - 1)
  obtain ⟨K, k1, k2⟩ := mx_at (yW cs) (n - 1)
  rw [show n - 1 + 1 = n by omega] at m1 m2 k1 k2
  refine ⟨⟨M, K⟩, fun i hi => (lowL_le cs (n + 1) i (by omega)).1, fun i hi => (lowL_le cs (n + 1) i (by omega)).2, m1, k1, ?_, ?_, m2, k2⟩
  · obtain ⟨i, h1, h2⟩ := lowL_at0 cs (n + 1)
    obtain ⟨j, h3, h4, _⟩ := back i h1
    exact ⟨j, h3, h4.trans h2⟩
  · obtain ⟨i, h1, h2⟩ := lowL_at1 cs (n + 1)
    obtain ⟨j, h3, _, h4⟩ := back i h1
    exact ⟨j, h3, h4.trans h2⟩
theorem BoxW.same {cs : List S41} {n : Nat} {lo hi lo' hi' : S41} (B : BoxW cs n lo hi) (C : BoxW cs n lo' hi') : lo = lo' ∧ hi = hi' := by
  obtain ⟨a, ha, ha'⟩ := B.a0
  obtain ⟨b, hb, hb'⟩ := B.a1
  obtain ⟨c, hc, hc'⟩ := B.b0
  obtain ⟨d, hd, hd'⟩ := B.b1
  obtain ⟨e, he, he'⟩ := C.a0
  obtain ⟨f, hf, hf'⟩ := C.a1
  obtain ⟨g, hg, hg'⟩ := C.b0
  obtain ⟨i, hi9, hi'9⟩ := C.b1
  have q1 := B.l0 e he
  have q2 := C.l0 a ha
  have q3 := B.l1 f hf
  have q4 := C.l1 b hb
  have q5 := B.h0 g hg
  have q6 := C.h0 c hc
  have q7 := B.h1 i hi9
  have q8 := C.h1 d hd
  cases lo; cases lo'; cases hi; cases hi'
  simp only at *
  constructor <;> congr 1 <;> omega
end Go.Proofs.YtbnkdfmomcmmaaaDoor.P


namespace Go.Proofs.YtbnkdfmomcmmaaaDoor.P
open Go.RowKit Go.Proofs.YtbnkdfmomcmmaaaDoorW.PrintWords Go.Proofs.YtbnkdfmomcmmaaaDoorW.PrintLast Go.Proofs.YtbnkdfmomcmmaaaDoorW.PrintMore
attribute [local go_sem] max2_int min2_int max_two min_two max_three min_three max_four min_four   -- for this text's walks alone
set_option linter.unusedVariables false
set_option linter.unusedSimpArgs false

theorem loCornersL_l0 (s : ByteArray) (h : LoopW s) : ∀ (d k i : Nat), s.size - i = d → i ≤ s.size → d + 100 < k →
    spec_loCorners.l0 k s ((cornersL s.data.toList).take i) (i : Int) ((cornersL s.data.toList).getD i ⟨0, 0⟩).f0 ((cornersL s.data.toList).getD i ⟨0, 0⟩).f1 = some ((cornersL s.data.toList).take s.size, true) := by
  obtain ⟨h4, h40, hst, hend, hinj⟩ := h
  have hl : s.data.toList.length = s.size := by simp
  have hcl := cornersL_len s.data.toList
  have hbds := cornersL_bound s.data.toList (by omega)
  have hwk : ∀ i (hi : i < s.data.toList.length), (cornersL s.data.toList).getD (i + 1) ⟨0, 0⟩ = nextC ((cornersL s.data.toList).getD i ⟨0, 0⟩) ((s.data.toList[i].toNat : Nat) : Int) := fun i hi => walk_at s.data.toList ⟨0, 0⟩ i hi
  generalize cornersL s.data.toList = cs at *
  intro d
  induction d with
  | zero =>
    intro k i h1 h2 h3
    obtain ⟨k, rfl⟩ : ∃ q, k = q + 1 := ⟨k - 1, by omega⟩
    obtain rfl : i = s.size := by omega
    simp only [spec_loCorners.l0]
    rw [if_neg (by omega), hend]
    rfl
  | succ d ih =>
    intro k i h1 h2 h3
    obtain ⟨k, rfl⟩ : ∃ q, k = q + 1 := ⟨k - 1, by omega⟩
    have hi : i < s.size := by omega
    have hil : i < s.data.toList.length := by omega
    have e1 : wrap64 ((i : Int) + 1) = ((i + 1 : Nat) : Int) := by unfold wrap64; omega
    have hbt : bt s (i : Int) = ((s.data.toList[i].toNat : Nat) : Int) := by
      unfold bt
      rw [Int.toNat_natCast, dif_pos (by omega)]
      rfl
    have hsb := hst _ (List.getElem_mem hil)
    have htl : (cs.take i).length = i := by rw [List.length_take]; omega
    have hci : i < cs.length := by omega
    have hgd : cs.getD i ⟨0, 0⟩ = cs[i] := by rw [List.getD_eq_getElem?_getD, List.getElem?_eq_getElem hci]; rfl
    have hbd := hbds cs[i] (List.getElem_mem hci)
    have htk : cs.take (i + 1) = cs.take i ++ [cs[i]] := List.take_succ_eq_append_getElem hci
    have hnot : ¬ (cs[i].f0, cs[i].f1) ∈ (cs.take i).map pairC := by
      intro hm
      obtain ⟨c, hc, he⟩ := List.mem_map.1 hm
      obtain ⟨j, hj, hjc⟩ := List.mem_iff_getElem.1 hc
      rw [List.length_take] at hj
      have hne := hinj j i (by omega) hi
      apply hne
      have e2 : cs.getD j ⟨0, 0⟩ = c := by
        rw [← hjc, List.getElem_take, List.getD_eq_getElem?_getD, List.getElem?_eq_getElem (by omega)]; rfl
      rw [e2, hgd, he]
      rfl
    have hnx := hwk i hil
    have ih2 := ih k (i + 1) (by omega) (by omega) (by omega)
    simp only [spec_loCorners.l0]
    rw [if_pos (by omega), if_pos (by omega), hbt, loDir_f _ k (by omega), Option.bind_some, if_neg ((dir_step _).1 hsb), liHas_f _ _ _ (by omega) k (by omega), Option.bind_some, hgd, decide_eq_false hnot, if_neg (by simp), if_pos (by rw [htl]; omega), loStepW_f _ _ _ hsb hbd.1 hbd.2, Option.bind_some, e1]
    rw [hnx, htk, hgd] at ih2
    exact ih2
theorem loCorners_yes (s : ByteArray) (h : LoopW s) (k : Nat) (hk : 1000 < k) : spec_loCorners.f k s = some ((cornersL s.data.toList).take s.size, true) := by
  have h4 := h.n4
  have h40 := h.n40
  unfold spec_loCorners.f spec_l1In.f
  rw [if_pos (by omega), decide_eq_true (show (s.size : Int) ≤ 40 by omega), Option.bind_some, if_pos rfl]
  exact loCornersL_l0 s h s.size k 0 (by omega) (by omega) (by omega)
theorem leastM_f (a b : Int) : spec_l1Least.f a b = some (if a < b then a else b) := by unfold spec_l1Least.f; split <;> rfl
theorem mostM_f (a b : Int) : spec_l1Most.f a b = some (if a > b then a else b) := by unfold spec_l1Most.f; split <;> rfl
theorem BoxW.step {cs : List S41} {n : Nat} {lo hi : S41} (B : BoxW cs n lo hi) : BoxW cs (n + 1) ⟨if lo.f0 < xW cs n then lo.f0 else xW cs n, if lo.f1 < yW cs n then lo.f1 else yW cs n⟩ ⟨if hi.f0 > xW cs n then hi.f0 else xW cs n, if hi.f1 > yW cs n then hi.f1 else yW cs n⟩ := by
  have pick : ∀ (P : Nat → Prop), (∀ i, i < n → P i) → P n → ∀ i, i < n + 1 → P i := fun P h1 h2 i hi => by
    by_cases e : i = n
    · subst e; exact h2
    · exact h1 i (by omega)
  refine ⟨pick _ (fun i hi => ?_) ?_, pick _ (fun i hi => ?_) ?_, pick _ (fun i hi => ?_) ?_, pick _ (fun i hi => ?_) ?_, ?_, ?_, ?_, ?_⟩
  · have := B.l0 i hi; show (if _ then _ else _) ≤ _; split <;> omega
  · show (if _ then _ else _) ≤ _; split <;> omega
  · have := B.l1 i hi; show (if _ then _ else _) ≤ _; split <;> omega
  · show (if _ then _ else _) ≤ _; split <;> omega
  · have := B.h0 i hi; show _ ≤ (if _ then _ else _); split <;> omega
  · show _ ≤ (if _ then _ else _); split <;> omega
  · have := B.h1 i hi; show _ ≤ (if _ then _ else _); split <;> omega
  · show _ ≤ (if _ then _ else _); split <;> omega
  · by_cases e : lo.f0 < xW cs n
    · obtain ⟨i, h1, h2⟩ := B.a0
      exact ⟨i, by omega, by show _ = (if _ then _ else _); rw [if_pos e]; exact h2⟩
    · exact ⟨n, by omega, by show _ = (if _ then _ else _); rw [if_neg e]⟩
  · by_cases e : lo.f1 < yW cs n
    · obtain ⟨i, h1, h2⟩ := B.a1
      exact ⟨i, by omega, by show _ = (if _ then _ else _); rw [if_pos e]; exact h2⟩
    · exact ⟨n, by omega, by show _ = (if _ then _ else _); rw [if_neg e]⟩
  · by_cases e : hi.f0 > xW cs n
    · obtain ⟨i, h1, h2⟩ := B.b0
      exact ⟨i, by omega, by show _ = (if _ then _ else _); rw [if_pos e]; exact h2⟩
    · exact ⟨n, by omega, by show _ = (if _ then _ else _); rw [if_neg e]⟩
  · by_cases e : hi.f1 > yW cs n
    · obtain ⟨i, h1, h2⟩ := B.b1
      exact ⟨i, by omega, by show _ = (if _ then _ else _); rw [if_pos e]; exact h2⟩
    · exact ⟨n, by omega, by show _ = (if _ then _ else _); rw [if_neg e]⟩
theorem loBox_l0 (L : List S41) (hL : L.length ≤ 1000) : ∀ (d k i : Nat) (lo hi : S41), L.length - i = d → 1 ≤ i → i ≤ L.length → d < k → BoxW L i lo hi →
    ∃ lo' hi', spec_loBox.l0 k L (L.length : Int) (i : Int) lo.f0 lo.f1 hi.f0 hi.f1 = some (lo'.f0, lo'.f1, hi'.f0, hi'.f1) ∧ BoxW L L.length lo' hi' := by
  intro d
  induction d with
  | zero =>
    intro k i lo hi h1 h2 h3 h4 B
    obtain ⟨k, rfl⟩ : ∃ q, k = q + 1 := ⟨k - 1, by omega⟩
    obtain rfl : i = L.length := by omega
    simp only [spec_loBox.l0]
    rw [if_neg (by omega)]
    exact ⟨lo, hi, rfl, B⟩
  | succ d ih =>
    intro k i lo hi h1 h2 h3 h4 B
    obtain ⟨k, rfl⟩ : ∃ q, k = q + 1 := ⟨k - 1, by omega⟩
    have e1 : wrap64 ((i : Int) + 1) = ((i + 1 : Nat) : Int) := by unfold wrap64; omega
    have hrd : rd_T41 L (i : Int) = L.getD i ⟨0, 0⟩ := by unfold rd_T41; rw [Int.toNat_natCast]; rfl
    obtain ⟨lo', hi', h5, h6⟩ := ih k (i + 1) _ _ (by omega) (by omega) (by omega) (by omega) B.step
    refine ⟨lo', hi', ?_, h6⟩
    rw [← h5]
    simp only [spec_loBox.l0]
    rw [if_pos (by omega), if_pos (by omega), if_pos (by omega), hrd, e1, leastM_f, leastM_f, mostM_f, mostM_f]
    simp only [Option.bind_some]
    rfl
theorem loBox_f (L : List S41) (hL : L.length ≤ 1000) (h0 : 0 < L.length) (k : Nat) (hk : 1001 < k) : ∃ lo hi, spec_loBox.f k L = some (lo.f0, lo.f1, hi.f0, hi.f1) ∧ BoxW L L.length lo hi := by
  obtain ⟨k, rfl⟩ : ∃ q, k = q + 1 := ⟨k - 1, by omega⟩
  have hrd : rd_T41 L 0 = L.getD 0 ⟨0, 0⟩ := rfl
  have B1 : BoxW L 1 (L.getD 0 ⟨0, 0⟩) (L.getD 0 ⟨0, 0⟩) := by
    have z : ∀ i, i < 1 → i = 0 := fun i h => by omega
    exact ⟨fun i h => by rw [z i h]; exact Int.le_refl _, fun i h => by rw [z i h]; exact Int.le_refl _, fun i h => by rw [z i h]; exact Int.le_refl _, fun i h => by rw [z i h]; exact Int.le_refl _, ⟨0, by omega, rfl⟩, ⟨0, by omega, rfl⟩, ⟨0, by omega, rfl⟩, ⟨0, by omega, rfl⟩⟩
  obtain ⟨lo, hi, h1, h2⟩ := loBox_l0 L hL (L.length - 1) k 1 _ _ rfl (by omega) (by omega) (by omega) B1
  refine ⟨lo, hi, ?_, h2⟩
  unfold spec_loBox.f
  rw [if_pos (by omega), hrd, ← h1]
  simp only [spec_loBox.l0]
  have e1 : wrap64 (0 + 1) = ((1 : Nat) : Int) := by unfold wrap64; omega
  rw [if_pos (by omega), if_pos (by omega), if_pos (by omega), hrd, e1, leastM_f, leastM_f, mostM_f, mostM_f]
  simp only [Option.bind_some, Int.lt_irrefl, gt_iff_lt, if_false]
theorem BoxW.congr {cs L : List S41} {n : Nat} {lo hi : S41} (B : BoxW L n lo hi) (h : ∀ i, i < n → L.getD i ⟨0, 0⟩ = cs.getD i ⟨0, 0⟩) : BoxW cs n lo hi := by
  have hx : ∀ i, i < n → xW L i = xW cs i := fun i hi => by unfold xW; rw [h i hi]
  have hy : ∀ i, i < n → yW L i = yW cs i := fun i hi => by unfold yW; rw [h i hi]
  obtain ⟨a, ha, ha'⟩ := B.a0
  obtain ⟨b, hb, hb'⟩ := B.a1
  obtain ⟨c, hc, hc'⟩ := B.b0
  obtain ⟨d, hd, hd'⟩ := B.b1
  exact ⟨fun i hi => by rw [← hx i hi]; exact B.l0 i hi, fun i hi => by rw [← hy i hi]; exact B.l1 i hi, fun i hi => by rw [← hx i hi]; exact B.h0 i hi, fun i hi => by rw [← hy i hi]; exact B.h1 i hi, ⟨a, ha, by rw [← hx a ha]; exact ha'⟩, ⟨b, hb, by rw [← hy b hb]; exact hb'⟩, ⟨c, hc, by rw [← hx c hc]; exact hc'⟩, ⟨d, hd, by rw [← hy d hd]; exact hd'⟩⟩
theorem loBox_loop (s : ByteArray) (h : LoopW s) (k : Nat) (hk : 1001 < k) : ∃ hi, spec_loBox.f k ((cornersL s.data.toList).take s.size) = some ((lowL (cornersL s.data.toList) (s.size + 1)).f0, (lowL (cornersL s.data.toList) (s.size + 1)).f1, hi.f0, hi.f1) ∧ BoxW (cornersL s.data.toList) s.size (lowL (cornersL s.data.toList) (s.size + 1)) hi := by
  have h4 := h.n4
  have h40 := h.n40
  have hl : s.data.toList.length = s.size := by simp
  have hcl := cornersL_len s.data.toList
  have R := ring_of s h
  generalize cornersL s.data.toList = cs at *
  have htl : (cs.take s.size).length = s.size := by rw [List.length_take]; omega
  obtain ⟨lo, hi, h1, h2⟩ := loBox_f (cs.take s.size) (by omega) (by omega) k hk
  rw [htl] at h2
  have h3 := h2.congr (cs := cs) (fun i hi => take_getD _ _ _ hi)
  obtain ⟨hi', B⟩ := box_of R
  obtain ⟨rfl, rfl⟩ := B.same h3
  exact ⟨_, h1, B⟩
theorem rowG_len (q : Nat → Nat → Bool) (y : Nat) : ∀ x, (rowG q y x).length ≤ x
  | 0 => Nat.le_refl _
  | x + 1 => by
    have := rowG_len q y x
    show (if q y x then _ else _ : List _).length ≤ _
    split
    · rw [List.length_append, List.length_singleton]; omega
    · omega
theorem gridG_len (q : Nat → Nat → Bool) (W : Nat) : ∀ y, (gridG q W y).length ≤ y * W
  | 0 => by simp [gridG]
  | y + 1 => by
    have := gridG_len q W y
    have h2 := rowG_len q y W
    show (gridG q W y ++ rowG q y W).length ≤ _
    rw [List.length_append, Nat.succ_mul]
    omega
section
variable (s : ByteArray) (h : LoopW s)
include h
theorem loCells_l2 (out : List S41) (l0 l1 h0 h1 y x : Int) : ∀ (d k i : Nat) (b : Bool), s.size - i = d → i ≤ s.size → 20 < k →
    spec_loCells.l2 (k + d + 1) s ((cornersL s.data.toList).take s.size) out y b x ((cornersL s.data.toList).take s.size) (((cornersL s.data.toList).take s.size).length : Int) (i : Int) l0 l1 h0 h1 =
    spec_loCells.l2 (k + 1) s ((cornersL s.data.toList).take s.size) out y (xor b (xor (parN (fun j => vE (xW (cornersL s.data.toList)) (yW (cornersL s.data.toList)) j y && decide (xW (cornersL s.data.toList) j = x)) s.size) (parN (fun j => vE (xW (cornersL s.data.toList)) (yW (cornersL s.data.toList)) j y && decide (xW (cornersL s.data.toList) j = x)) i))) x ((cornersL s.data.toList).take s.size) (((cornersL s.data.toList).take s.size).length : Int) (s.size : Int) l0 l1 h0 h1 := by
  obtain ⟨h4, h40, hst, hend, hinj⟩ := h
  have hl : s.data.toList.length = s.size := by simp
  have hcl := cornersL_len s.data.toList
  have hbds := cornersL_bound s.data.toList (by omega)
  have hwk : ∀ i (hi : i < s.data.toList.length), (cornersL s.data.toList).getD (i + 1) ⟨0, 0⟩ = nextC ((cornersL s.data.toList).getD i ⟨0, 0⟩) ((s.data.toList[i].toNat : Nat) : Int) := fun i hi => walk_at s.data.toList ⟨0, 0⟩ i hi
  generalize cornersL s.data.toList = cs at *
  have htl : (cs.take s.size).length = s.size := by rw [List.length_take]; omega
  intro d
  induction d with
  | zero =>
    intro k i b h1 h2 h3
    obtain rfl : i = s.size := by omega
    rw [Bool.xor_self, Bool.xor_false]
  | succ d ih =>
    intro k i b h1 h2 h3
    have hi : i < s.size := by omega
    have hil : i < s.data.toList.length := by omega
    have e1 : wrap64 ((i : Int) + 1) = ((i + 1 : Nat) : Int) := by unfold wrap64; omega
    have hbt : bt s (i : Int) = ((s.data.toList[i].toNat : Nat) : Int) := by
      unfold bt
      rw [Int.toNat_natCast, dif_pos (by omega)]
      rfl
    have hsb := hst _ (List.getElem_mem hil)
    have hci : i < cs.length := by omega
    have hgd : cs.getD i ⟨0, 0⟩ = cs[i] := by rw [List.getD_eq_getElem?_getD, List.getElem?_eq_getElem hci]; rfl
    have hrd : rd_T41 (cs.take s.size) (i : Int) = cs[i] := by
      unfold rd_T41
      rw [Int.toNat_natCast, ← hgd]
      exact take_getD cs s.size i hi
    have hbd := hbds cs[i] (List.getElem_mem hci)
    have hnx := hwk i hil
    rw [hgd] at hnx
    have hx0 : xW cs i = cs[i].f0 := by unfold xW; rw [hgd]
    have hy0 : yW cs i = cs[i].f1 := by unfold yW; rw [hgd]
    have hx1 : xW cs (i + 1) = (nextC cs[i] ((s.data.toList[i].toNat : Nat) : Int)).f0 := by unfold xW; rw [hnx]
    have hy1 : yW cs (i + 1) = (nextC cs[i] ((s.data.toList[i].toNat : Nat) : Int)).f1 := by unfold yW; rw [hnx]
    have un := nextC_unit cs[i] s.data.toList[i] hsb hbd.1 hbd.2
    have hp : parN (fun j => vE (xW cs) (yW cs) j y && decide (xW cs j = x)) (i + 1) = xor (parN (fun j => vE (xW cs) (yW cs) j y && decide (xW cs j = x)) i) (vE (xW cs) (yW cs) i y && decide (xW cs i = x)) := rfl
    have ih2 : ∀ b, _ := fun b => ih k (i + 1) b (by omega) (by omega) h3
    rw [hp] at ih2
    generalize hP : parN (fun j => vE (xW cs) (yW cs) j y && decide (xW cs j = x)) s.size = pn at ih2 ⊢
    generalize hQ : parN (fun j => vE (xW cs) (yW cs) j y && decide (xW cs j = x)) i = pi at ih2 ⊢
    have hv : (vE (xW cs) (yW cs) i y && decide (xW cs i = x)) = (decide (cs[i].f0 = x) && (decide ((nextC cs[i] ((s.data.toList[i].toNat : Nat) : Int)).f0 = x) && decide ((if cs[i].f1 < (nextC cs[i] ((s.data.toList[i].toNat : Nat) : Int)).f1 then cs[i].f1 else (nextC cs[i] ((s.data.toList[i].toNat : Nat) : Int)).f1) = y))) := by
      unfold vE minI
      rw [hx0, hx1, hy0, hy1]
      generalize nextC cs[i] ((s.data.toList[i].toNat : Nat) : Int) = nx at un
      rw [Bool.eq_iff_iff]
      simp only [Bool.and_eq_true, decide_eq_true_iff]
      constructor
      · rintro ⟨⟨a1, a2⟩, a3⟩
        refine ⟨a3, by omega, ?_⟩
        rw [← a2]
        split <;> split <;> omega
      · rintro ⟨a1, a2, a3⟩
        refine ⟨⟨by omega, ?_⟩, a1⟩
        rw [← a3]
        split <;> split <;> omega
    rw [hv] at ih2
    rw [show k + (d + 1) + 1 = (k + d + 1) + 1 by omega]
    rw [spec_loCells.l2]
    rw [if_pos (by omega), if_pos (by omega), if_pos (by omega), if_pos (by omega), hbt, loDir_f _ _ (by omega), Option.bind_some, hrd, loStepW_f _ _ _ hsb hbd.1 hbd.2, Option.bind_some, e1]
    dsimp only
    generalize nextC cs[i] ((s.data.toList[i].toNat : Nat) : Int) = nx at *
    by_cases c1 : cs[i].f0 = x
    · rw [if_pos c1]
      by_cases c2 : nx.f0 = x
      · rw [if_pos c2, leastM_f, Option.bind_some]
        by_cases c3 : (if cs[i].f1 < nx.f1 then cs[i].f1 else nx.f1) = y
        · rw [if_pos c3, ih2]
          rw [decide_eq_true c1, decide_eq_true c2, decide_eq_true c3]
          congr 1
          cases b <;> cases pn <;> cases pi <;> rfl
        · rw [if_neg c3, ih2]
          rw [decide_eq_false c3]
          congr 1
          simp
      · rw [if_neg c2, ih2]
        rw [decide_eq_false c2]
        congr 1
        simp
    · rw [if_neg c1, ih2]
      rw [decide_eq_false c1]
      congr 1
      simp
theorem loCells_l1 (lo hi : S41) (B : BoxW (cornersL s.data.toList) s.size lo hi) (G : List S41) (j F : Nat) (hF : 20 < F) (hj : j < 100) (hyn : -2000 ≤ lo.f1 ∧ lo.f1 ≤ 2000) (hxn : -2000 ≤ lo.f0 ∧ lo.f0 ≤ 2000) (hW : (hi.f0 - lo.f0).toNat ≤ 100)
    (IH : ∀ k, F < k → spec_loCells.l0 k s ((cornersL s.data.toList).take s.size) (gridG (inQ (cornersL s.data.toList) lo s.size) (hi.f0 - lo.f0).toNat (j + 1)) (wrap64 ((j : Int) + lo.f1 + 1)) lo.f0 lo.f1 hi.f0 hi.f1 = some G) :
    ∀ (e k i : Nat), (hi.f0 - lo.f0).toNat - i = e → i ≤ (hi.f0 - lo.f0).toNat → e * (s.size + 3) + F + 1 < k →
    spec_loCells.l1 k s ((cornersL s.data.toList).take s.size) (gridG (inQ (cornersL s.data.toList) lo s.size) (hi.f0 - lo.f0).toNat j ++ rowG (inQ (cornersL s.data.toList) lo s.size) j i) ((j : Int) + lo.f1) (Ring.ins (xW (cornersL s.data.toList)) (yW (cornersL s.data.toList)) s.size ((j : Int) + lo.f1) ((i : Int) + lo.f0 - 1)) ((i : Int) + lo.f0) lo.f0 lo.f1 hi.f0 hi.f1 = some G := by
  have hlo : lo.f0 ≤ hi.f0 := by
    obtain ⟨a, h1, h2⟩ := B.a0
    have := B.h0 a h1
    omega
  have htl : ((cornersL s.data.toList).take s.size).length = s.size := by rw [List.length_take, cornersL_len]; simp
  have h4 := h.n4
  have h40 := h.n40
  intro e
  induction e with
  | zero =>
    intro k i h1 h2 h3
    obtain ⟨k, rfl⟩ : ∃ q, k = q + 1 := ⟨k - 1, by omega⟩
    obtain rfl : i = (hi.f0 - lo.f0).toNat := by omega
    rw [spec_loCells.l1, if_neg (by omega)]
    have := IH k (by omega)
    rw [gridG] at this
    exact this
  | succ e ih =>
    intro k i h1 h2 h3
    rw [Nat.succ_mul] at h3
    generalize e * (s.size + 3) = es at h3 ih
    obtain ⟨k, rfl⟩ : ∃ q, k = q + s.size + 1 + 1 + 1 := ⟨k - (s.size + 3), by omega⟩
    have hi2 : i < (hi.f0 - lo.f0).toNat := by omega
    have e1 : wrap64 ((i : Int) + lo.f0 + 1) = ((i + 1 : Nat) : Int) + lo.f0 := by unfold wrap64; omega
    have e2 : wrap64 ((i : Int) + lo.f0 - lo.f0) = (i : Int) := by unfold wrap64; omega
    have e3 : wrap64 ((j : Int) + lo.f1 - lo.f1) = (j : Int) := by unfold wrap64; omega
    rw [spec_loCells.l1, if_pos (by omega)]
    have hw := loCells_l2 s h (gridG (inQ (cornersL s.data.toList) lo s.size) (hi.f0 - lo.f0).toNat j ++ rowG (inQ (cornersL s.data.toList) lo s.size) j i) lo.f0 lo.f1 hi.f0 hi.f1 ((j : Int) + lo.f1) ((i : Int) + lo.f0) s.size (k + 1) 0 (Ring.ins (xW (cornersL s.data.toList)) (yW (cornersL s.data.toList)) s.size ((j : Int) + lo.f1) ((i : Int) + lo.f0 - 1)) (by omega) (by omega) (by omega)
    have hs := Ring.ins_step (xW (cornersL s.data.toList)) (yW (cornersL s.data.toList)) s.size ((j : Int) + lo.f1) ((i : Int) + lo.f0 - 1)
    rw [show (i : Int) + lo.f0 - 1 + 1 = (i : Int) + lo.f0 by omega] at hs
    have hb : (xor (Ring.ins (xW (cornersL s.data.toList)) (yW (cornersL s.data.toList)) s.size ((j : Int) + lo.f1) ((i : Int) + lo.f0 - 1)) (xor (parN (fun j' => vE (xW (cornersL s.data.toList)) (yW (cornersL s.data.toList)) j' ((j : Int) + lo.f1) && decide (xW (cornersL s.data.toList) j' = (i : Int) + lo.f0)) s.size) (parN (fun j' => vE (xW (cornersL s.data.toList)) (yW (cornersL s.data.toList)) j' ((j : Int) + lo.f1) && decide (xW (cornersL s.data.toList) j' = (i : Int) + lo.f0)) 0))) = Ring.ins (xW (cornersL s.data.toList)) (yW (cornersL s.data.toList)) s.size ((j : Int) + lo.f1) ((i : Int) + lo.f0) := by
      rw [hs]
      show xor _ (xor (Ring.atE _ _ _ _ _) false) = _
      rw [Bool.xor_false]
    rw [hb] at hw
    rw [show k + s.size + 1 + 1 = k + 1 + s.size + 1 by omega]
    refine hw.trans ?_
    rw [spec_loCells.l2, if_neg (by omega), e1, e2, e3]
    have ih2 := ih (k + 1) (i + 1) (by omega) (by omega) (by omega)
    rw [rowG] at ih2
    rw [show ((i + 1 : Nat) : Int) + lo.f0 - 1 = (i : Int) + lo.f0 by omega] at ih2
    have hlen : (gridG (inQ (cornersL s.data.toList) lo s.size) (hi.f0 - lo.f0).toNat j ++ rowG (inQ (cornersL s.data.toList) lo s.size) j i).length < 8796093022208 := by
      have q1 := gridG_len (inQ (cornersL s.data.toList) lo s.size) (hi.f0 - lo.f0).toNat j
      have q2 := rowG_len (inQ (cornersL s.data.toList) lo s.size) j i
      have q3 : j * (hi.f0 - lo.f0).toNat ≤ 100 * 100 := Nat.mul_le_mul (by omega) hW
      rw [List.length_append]
      omega
    have hq : inQ (cornersL s.data.toList) lo s.size j i = Ring.ins (xW (cornersL s.data.toList)) (yW (cornersL s.data.toList)) s.size ((j : Int) + lo.f1) ((i : Int) + lo.f0) := rfl
    rw [hq] at ih2
    cases hc : Ring.ins (xW (cornersL s.data.toList)) (yW (cornersL s.data.toList)) s.size ((j : Int) + lo.f1) ((i : Int) + lo.f0) with
    | true =>
      rw [hc, if_pos rfl] at ih2
      rw [if_pos rfl, if_pos hlen, List.append_assoc]
      exact ih2
    | false =>
      rw [hc, if_neg (by simp)] at ih2
      rw [if_neg (by simp)]
      exact ih2
theorem loCells_l0 (lo hi : S41) (B : BoxW (cornersL s.data.toList) s.size lo hi) (hyn : -2000 ≤ lo.f1 ∧ lo.f1 ≤ 2000) (hxn : -2000 ≤ lo.f0 ∧ lo.f0 ≤ 2000) (hW : (hi.f0 - lo.f0).toNat ≤ 100) (hH : (hi.f1 - lo.f1).toNat ≤ 100) :
    ∀ (d k j : Nat), (hi.f1 - lo.f1).toNat - j = d → j ≤ (hi.f1 - lo.f1).toNat → d * 5000 + 30 < k →
    spec_loCells.l0 k s ((cornersL s.data.toList).take s.size) (gridG (inQ (cornersL s.data.toList) lo s.size) (hi.f0 - lo.f0).toNat j) ((j : Int) + lo.f1) lo.f0 lo.f1 hi.f0 hi.f1 = some (gridG (inQ (cornersL s.data.toList) lo s.size) (hi.f0 - lo.f0).toNat (hi.f1 - lo.f1).toNat) := by
  have hlo : lo.f1 ≤ hi.f1 := by
    obtain ⟨a, h1, h2⟩ := B.a1
    have := B.h1 a h1
    omega
  have h4 := h.n4
  have h40 := h.n40
  intro d
  induction d with
  | zero =>
    intro k j h1 h2 h3
    obtain ⟨k, rfl⟩ : ∃ q, k = q + 1 := ⟨k - 1, by omega⟩
    obtain rfl : j = (hi.f1 - lo.f1).toNat := by omega
    rw [spec_loCells.l0, if_neg (by omega)]
  | succ d ih =>
    intro k j h1 h2 h3
    rw [Nat.succ_mul] at h3
    obtain ⟨k, rfl⟩ : ∃ q, k = q + 1 := ⟨k - 1, by omega⟩
    rw [spec_loCells.l0, if_pos (by omega)]
    have e1 : wrap64 ((j : Int) + lo.f1 + 1) = ((j + 1 : Nat) : Int) + lo.f1 := by unfold wrap64; omega
    have hm : (hi.f0 - lo.f0).toNat * (s.size + 3) ≤ 100 * 43 := Nat.mul_le_mul hW (by omega)
    have hl1 := loCells_l1 s h lo hi B _ j (d * 5000 + 30) (by omega) (by omega) hyn hxn hW (fun k' hk' => by
      rw [e1]
      exact ih k' (j + 1) (by omega) (by omega) hk') (hi.f0 - lo.f0).toNat k 0 (by omega) (by omega) (by omega)
    have hz : Ring.ins (xW (cornersL s.data.toList)) (yW (cornersL s.data.toList)) s.size ((j : Int) + lo.f1) (((0 : Nat) : Int) + lo.f0 - 1) = false := Ring.ins_low _ _ (fun i hi => by have := B.l0 i hi; omega)
    rw [hz, rowG, List.append_nil] at hl1
    have e0 : ((0 : Nat) : Int) + lo.f0 = lo.f0 := by omega
    rw [e0] at hl1
    exact hl1
theorem loCells_f (k : Nat) (hk : 500100 < k) : spec_loCells.f k s = some (cellsW s.data.toList) := by
  have h4 := h.n4
  have h40 := h.n40
  have hl : s.data.toList.length = s.size := by simp
  obtain ⟨hi, h1, B⟩ := loBox_loop s h k (by omega)
  have R := ring_of s h
  have hbd := lowL_bd (cornersL s.data.toList) (cornersL_bound s.data.toList (by omega)) (s.size + 1)
  obtain ⟨a, ha, ha'⟩ := B.a0
  obtain ⟨b, hb, hb'⟩ := B.a1
  obtain ⟨c, hc, hc'⟩ := B.b0
  obtain ⟨d, hd, hd'⟩ := B.b1
  have w0 := (R.wide_le a c (by omega) (by omega)).1
  have w1 := (R.wide_le b d (by omega) (by omega)).2
  have hc2 : cellsW s.data.toList = gridG (inQ (cornersL s.data.toList) (lowL (cornersL s.data.toList) (s.size + 1)) s.size) (hi.f0 - (lowL (cornersL s.data.toList) (s.size + 1)).f0).toNat (hi.f1 - (lowL (cornersL s.data.toList) (s.size + 1)).f1).toNat := by
    unfold cellsW
    rw [hl]
    exact cells_box R h40 B
  rw [hc2]
  unfold spec_loCells.f
  rw [loCorners_yes s h k (by omega), Option.bind_some, h1, Option.bind_some]
  dsimp only
  generalize lowL (cornersL s.data.toList) (s.size + 1) = lo at *
  have hl0 := loCells_l0 s h lo hi B (by omega) (by omega) (by omega) (by omega) (hi.f1 - lo.f1).toNat k 0 (by omega) (by omega) (by omega)
  have e0 : ((0 : Nat) : Int) + lo.f1 = lo.f1 := by omega
  rw [e0] at hl0
  exact hl0
end

end Go.Proofs.YtbnkdfmomcmmaaaDoor.P


namespace Go.Proofs.YtbnkdfmomcmmaaaDoor.P
open Go.RowKit Go.Proofs.YtbnkdfmomcmmaaaDoorW.PrintWords Go.Proofs.YtbnkdfmomcmmaaaDoorW.PrintLast Go.Proofs.YtbnkdfmomcmmaaaDoorW.PrintMore
attribute [local go_sem] max2_int min2_int max_two min_two max_three min_three max_four min_four   -- for this text's walks alone
set_option linter.unusedVariables false
set_option linter.unusedSimpArgs false

theorem dropWhile_head {α : Type} {p : α → Bool} : ∀ {l : List α} {a : α} {t : List α}, l.dropWhile p = a :: t → p a = false
  | [], a, t, h => by simp at h
  | b :: l, a, t, h => by
    rw [List.dropWhile_cons] at h
    split at h
    · exact dropWhile_head h
    · rename_i hb
      injection h with h1 _
      subst h1
      simpa using hb
theorem dropWhile_nil {α : Type} {p : α → Bool} : ∀ {l : List α}, l.dropWhile p = [] ↔ ∀ x ∈ l, p x = true
  | [] => by simp
  | b :: l => by
    rw [List.dropWhile_cons]
    cases hb : p b with
    | true =>
      rw [if_pos rfl, dropWhile_nil]
      constructor
      · intro h x hx
        rcases List.mem_cons.1 hx with rfl | hx
        · exact hb
        · exact h x hx
      · intro h x hx
        exact h x (List.mem_cons_of_mem _ hx)
    | false =>
      rw [if_neg (by simp)]
      constructor
      · intro h; cases h
      · intro h
        have := h b List.mem_cons_self
        rw [hb] at this
        cases this
theorem trim_nil (l cs : List UInt8) : (Lib.trimS l cs).isEmpty = l.all fun b => cs.contains b := by
  unfold Lib.trimS Lib.trimLeftS Lib.trimRightS
  rw [Bool.eq_iff_iff, List.isEmpty_iff, List.all_eq_true]
  constructor
  · intro h x hx
    rw [dropWhile_nil] at h
    cases hr : l.reverse.dropWhile (cs.contains ·) with
    | nil =>
      rw [dropWhile_nil] at hr
      exact hr x (List.mem_reverse.2 hx)
    | cons a t =>
      have h1 := dropWhile_head hr
      have h2 := h a (by rw [hr]; simp)
      rw [h1] at h2
      cases h2
  · intro h
    have hr : l.reverse.dropWhile (cs.contains ·) = [] := by
      rw [dropWhile_nil]
      intro x hx
      exact h x (List.mem_reverse.1 hx)
    rw [hr]
    rfl
theorem stepsOnly_all (s : ByteArray) : stepsOnly s = s.data.toList.all stepBW := by
  unfold stepsOnly
  rw [trim_nil]
  congr 1
  funext b
  unfold stepBW stepsB
  simp only [List.contains_cons, List.contains_nil]
  cases (b == 110) <;> cases (b == 101) <;> cases (b == 115) <;> cases (b == 119) <;> rfl
theorem seenC_mem : ∀ (l : List S41) (c : Int × Int), c ∈ seenC l ↔ c ∈ l.map pairC := by
  intro l
  have key : ∀ (l : List S41) (S : List (Int × Int)) (c : Int × Int), c ∈ l.foldl (fun S c => if pairC c ∈ S then S else pairC c :: S) S ↔ c ∈ S ∨ c ∈ l.map pairC := by
    intro l
    induction l with
    | nil => intro S c; simp
    | cons a t ih =>
      intro S c
      rw [List.foldl_cons, ih, List.map_cons, List.mem_cons]
      by_cases ha : pairC a ∈ S
      · rw [if_pos ha]
        constructor
        · rintro (h | h)
          · exact .inl h
          · exact .inr (.inr h)
        · rintro (h | rfl | h)
          · exact .inl h
          · exact .inl ha
          · exact .inr h
      · rw [if_neg ha, List.mem_cons]
        constructor
        · rintro ((h | h) | h)
          · exact .inr (.inl h)
          · exact .inl h
          · exact .inr (.inr h)
        · rintro (h | h | h)
          · exact .inl (.inr h)
          · exact .inl (.inl h)
          · exact .inr h
  intro c
  have := key l [] c
  simpa [seenC] using this
theorem seenC_app (l m : List S41) : (seenC (l ++ m)).length ≤ (seenC l).length + m.length := by
  have key : ∀ (m : List S41) (S : List (Int × Int)), (m.foldl (fun S c => if pairC c ∈ S then S else pairC c :: S) S).length ≤ S.length + m.length := by
    intro m
    induction m with
    | nil => intro S; exact Nat.le_refl _
    | cons a t ih =>
      intro S
      rw [List.foldl_cons]
      have h1 := ih (if pairC a ∈ S then S else pairC a :: S)
      have h2 : (if pairC a ∈ S then S else pairC a :: S).length ≤ S.length + 1 := by split <;> simp
      rw [List.length_cons]
      omega
  unfold seenC
  rw [List.foldl_append]
  exact key m _
theorem loCorners_l0 (s : ByteArray) (l : List UInt8) (hl : l = s.data.toList) (hn : l.length ≤ 40) : ∀ (d k i : Nat), l.length - i = d → i ≤ l.length → d + 100 < k → (∀ b ∈ l.take i, stepBW b = true) → (seenC ((cornersL l).take i)).length = i →
    ∃ L, spec_loCorners.l0 k s ((cornersL l).take i) (i : Int) ((cornersL l).getD i ⟨0, 0⟩).f0 ((cornersL l).getD i ⟨0, 0⟩).f1 = some (L, l.all stepBW && closedW l) := by
  have hsz : s.size = l.length := by rw [hl]; simp
  have hcl := cornersL_len l
  intro d
  induction d with
  | zero =>
    intro k i h1 h2 h3 h4 h5
    obtain ⟨k, rfl⟩ : ∃ q, k = q + 1 := ⟨k - 1, by omega⟩
    obtain rfl : i = l.length := by omega
    refine ⟨(cornersL l).take l.length, ?_⟩
    simp only [spec_loCorners.l0]
    rw [if_neg (by omega)]
    have ha : l.all stepBW = true := by
      rw [List.all_eq_true]
      intro b hb
      exact h4 b (by rw [List.take_length]; exact hb)
    unfold closedW
    rw [ha, h5, Bool.true_and, decide_eq_true rfl, Bool.and_true]
  | succ d ih =>
    intro k i h1 h2 h3 h4 h5
    obtain ⟨k, rfl⟩ : ∃ q, k = q + 1 := ⟨k - 1, by omega⟩
    have hi : i < l.length := by omega
    have e1 : wrap64 ((i : Int) + 1) = ((i + 1 : Nat) : Int) := by unfold wrap64; omega
    have hbt : bt s (i : Int) = ((l[i].toNat : Nat) : Int) := by
      subst hl
      unfold bt
      rw [Int.toNat_natCast, dif_pos (by omega)]
      rfl
    have htl : ((cornersL l).take i).length = i := by rw [List.length_take, hcl]; omega
    have hci : i < (cornersL l).length := by omega
    have hgd : (cornersL l).getD i ⟨0, 0⟩ = (cornersL l)[i] := by rw [List.getD_eq_getElem?_getD, List.getElem?_eq_getElem hci]; rfl
    have hbd := cornersL_bound l (by omega) (cornersL l)[i] (List.getElem_mem hci)
    have htk : (cornersL l).take (i + 1) = (cornersL l).take i ++ [(cornersL l)[i]] := List.take_succ_eq_append_getElem hci
    have hsn := seenC_snoc ((cornersL l).take i) (cornersL l)[i]
    rw [← htk] at hsn
    simp only [spec_loCorners.l0]
    rw [if_pos (by omega), if_pos (by omega), hbt, loDir_f _ k (by omega), Option.bind_some]
    cases hst : stepBW l[i] with
    | false =>
      have hd : dirN ((l[i].toNat : Nat) : Int) < 0 := by
        by_cases h : dirN ((l[i].toNat : Nat) : Int) < 0
        · exact h
        · have := (dir_step l[i]).2 (by omega)
          rw [hst] at this; cases this
      have ha : l.all stepBW = false := by
        rw [List.all_eq_false]
        exact ⟨l[i], List.getElem_mem hi, by rw [hst]; simp⟩
      rw [if_pos hd, ha]
      exact ⟨_, rfl⟩
    | true =>
      rw [if_neg ((dir_step l[i]).1 hst), liHas_f _ _ _ (by omega) k (by omega), Option.bind_some, hgd]
      by_cases hin : ((cornersL l)[i].f0, (cornersL l)[i].f1) ∈ ((cornersL l).take i).map pairC
      · rw [decide_eq_true hin, if_pos rfl]
        have hin2 : pairC (cornersL l)[i] ∈ seenC ((cornersL l).take i) := (seenC_mem _ _).2 hin
        rw [if_pos hin2] at hsn
        have happ := seenC_app ((cornersL l).take (i + 1)) (((cornersL l).take l.length).drop (i + 1))
        have hcat : (cornersL l).take (i + 1) ++ ((cornersL l).take l.length).drop (i + 1) = (cornersL l).take l.length := by
          have := List.take_append_drop (i + 1) ((cornersL l).take l.length)
          rw [List.take_take, Nat.min_eq_left (by omega)] at this
          exact this
        rw [hcat, hsn, h5, List.length_drop, List.length_take, hcl, Nat.min_eq_left (by omega)] at happ
        have hc : closedW l = false := by
          unfold closedW
          rw [decide_eq_false (by omega), Bool.and_false]
        rw [hc, Bool.and_false]
        exact ⟨_, rfl⟩
      · rw [decide_eq_false hin, if_neg (by simp), if_pos (by rw [htl]; omega), loStepW_f _ _ l[i] hst hbd.1 hbd.2, Option.bind_some, e1]
        have hin2 : ¬ pairC (cornersL l)[i] ∈ seenC ((cornersL l).take i) := fun h => hin ((seenC_mem _ _).1 h)
        rw [if_neg hin2] at hsn
        have hnx : (cornersL l).getD (i + 1) ⟨0, 0⟩ = nextC (cornersL l)[i] ((l[i].toNat : Nat) : Int) := by
          have h9 := walk_at l ⟨0, 0⟩ i hi
          rw [← hgd]
          exact h9
        have := ih k (i + 1) (by omega) (by omega) (by omega) (fun b hb => by
          rw [List.take_succ_eq_append_getElem hi, List.mem_append, List.mem_singleton] at hb
          rcases hb with hb | rfl
          · exact h4 b hb
          · exact hst) (by rw [hsn, List.length_cons, h5])
        rw [hnx, htk] at this
        exact this
theorem spec_IsLoop_f (s : ByteArray) (k : Nat) (hk : 1000 < k) : spec_IsLoop.f k s = some (isLoopB s) := by
  unfold spec_IsLoop.f spec_loCorners.f isLoopB spec_l1In.f
  by_cases h1 : 4 ≤ s.size ∧ s.size ≤ 40
  · have hl : s.data.toList.length = s.size := by simp
    obtain ⟨L, hL⟩ := loCorners_l0 s s.data.toList rfl (by omega) s.size k 0 (by omega) (by omega) (by omega) (fun b hb => by rw [List.take_zero] at hb; cases hb) (by rw [List.take_zero]; rfl)
    rw [List.take_zero] at hL
    rw [if_pos (by omega), decide_eq_true (show (s.size : Int) ≤ 40 by omega), Option.bind_some, if_pos rfl]
    have hL2 : spec_loCorners.l0 k s [] 0 0 0 = some (L, s.data.toList.all stepBW && closedW s.data.toList) := hL
    rw [hL2, Option.bind_some, decide_eq_true h1.1, decide_eq_true h1.2, stepsOnly_all]
    rfl
  · have e : (decide (4 ≤ s.size) && decide (s.size ≤ 40)) = false := by
      rw [Bool.eq_false_iff]; intro h; rw [Bool.and_eq_true, decide_eq_true_iff, decide_eq_true_iff] at h; exact h1 h
    rw [e]
    by_cases h2 : (s.size : Int) ≥ 4
    · rw [if_pos h2, decide_eq_false (by omega), Option.bind_some, if_neg (by simp)]
      rfl
    · rw [if_neg h2, Option.bind_some, if_neg (by simp)]
      rfl
theorem seen_full (l : List S41) (h : (seenC l).length = l.length) (i j : Nat) (hij : i < j) (hj : j < l.length) : pairC (l.getD i ⟨0, 0⟩) ≠ pairC (l.getD j ⟨0, 0⟩) := by
  intro he
  have htk : l.take (j + 1) = l.take j ++ [l[j]] := List.take_succ_eq_append_getElem hj
  have hsn := seenC_snoc (l.take j) l[j]
  have hgi : l.getD i ⟨0, 0⟩ = l[i]'(by omega) := by rw [List.getD_eq_getElem?_getD, List.getElem?_eq_getElem (by omega)]; rfl
  have hgj : l.getD j ⟨0, 0⟩ = l[j] := by rw [List.getD_eq_getElem?_getD, List.getElem?_eq_getElem hj]; rfl
  rw [hgi, hgj] at he
  have hin : pairC l[j] ∈ seenC (l.take j) := by
    rw [seenC_mem, ← he]
    refine List.mem_map_of_mem (f := pairC) ?_
    rw [List.mem_take_iff_getElem]
    exact ⟨i, by omega, rfl⟩
  rw [if_pos hin, ← htk] at hsn
  have h1 := seenC_len (l.take j)
  have happ := seenC_app (l.take (j + 1)) (l.drop (j + 1))
  rw [List.take_append_drop, h, hsn, List.length_drop] at happ
  rw [List.length_take] at h1
  omega
theorem loop_parts (s : ByteArray) (h : isLoopB s = true) : 4 ≤ s.size ∧ s.size ≤ 40 ∧ (∀ b ∈ s.data.toList, stepBW b = true) ∧ ((cornersL s.data.toList).getD s.size ⟨0, 0⟩ = ⟨0, 0⟩) ∧ (seenC ((cornersL s.data.toList).take s.size)).length = s.size := by
  unfold isLoopB at h
  rw [Bool.and_eq_true, Bool.and_eq_true, Bool.and_eq_true, decide_eq_true_iff, decide_eq_true_iff, stepsOnly_all, List.all_eq_true] at h
  obtain ⟨⟨h4, h40⟩, hst, hcl⟩ := h
  unfold closedW at hcl
  have hl : s.data.toList.length = s.size := by simp
  rw [hl, Bool.and_eq_true, Bool.and_eq_true, beq_iff_eq, beq_iff_eq, decide_eq_true_iff] at hcl
  obtain ⟨⟨c0, c1⟩, hsn⟩ := hcl
  refine ⟨h4, h40, hst, ?_, hsn⟩
  generalize (cornersL s.data.toList).getD s.size ⟨0, 0⟩ = c at c0 c1
  cases c
  simp only at c0 c1
  rw [c0, c1]
theorem LoopW_of (s : ByteArray) (h : isLoopB s = true) : LoopW s := by
  obtain ⟨h4, h40, hst, hend, hsn⟩ := loop_parts s h
  have hcl := cornersL_len s.data.toList
  have hl : s.data.toList.length = s.size := by simp
  refine ⟨h4, h40, hst, hend, fun i j hij hj => ?_⟩
  have htl : ((cornersL s.data.toList).take s.size).length = s.size := by rw [List.length_take]; omega
  have := seen_full ((cornersL s.data.toList).take s.size) (by rw [hsn, htl]) i j hij (by omega)
  rw [take_getD _ _ _ (by omega), take_getD _ _ _ hj] at this
  exact this
theorem loCorners_no (s : ByteArray) (h : isLoopB s = false) (k : Nat) (hk : 1000 < k) : ∃ L, spec_loCorners.f k s = some (L, false) := by
  unfold spec_loCorners.f spec_l1In.f
  by_cases h1 : 4 ≤ s.size ∧ s.size ≤ 40
  · have hl : s.data.toList.length = s.size := by simp
    obtain ⟨L, hL⟩ := loCorners_l0 s s.data.toList rfl (by omega) s.size k 0 (by omega) (by omega) (by omega) (fun b hb => by rw [List.take_zero] at hb; cases hb) (by rw [List.take_zero]; rfl)
    rw [List.take_zero] at hL
    rw [if_pos (by omega), decide_eq_true (show (s.size : Int) ≤ 40 by omega), Option.bind_some, if_pos rfl]
    refine ⟨L, ?_⟩
    have hL2 : spec_loCorners.l0 k s [] 0 0 0 = some (L, s.data.toList.all stepBW && closedW s.data.toList) := hL
    rw [hL2]
    unfold isLoopB at h
    rw [decide_eq_true h1.1, decide_eq_true h1.2, stepsOnly_all] at h
    simp only [Bool.true_and] at h
    rw [h]
  · refine ⟨[], ?_⟩
    by_cases h2 : (s.size : Int) ≥ 4
    · rw [if_pos h2, decide_eq_false (by omega), Option.bind_some, if_neg (by simp)]
    · rw [if_neg h2, Option.bind_some, if_neg (by simp)]

end Go.Proofs.YtbnkdfmomcmmaaaDoor.P


/- The law FnExactAreaOfLoop, as a statement of numbers and lists: both sides tell the same of every word; no condition. -/
namespace Go.Proofs.YtbnkdfmomcmmaaaDoor.Pure
open Go.RowKit Go.Proofs.YtbnkdfmomcmmaaaDoor.P Go.Proofs.YtbnkdfmomcmmaaaDoorW.PrintWords Go.Proofs.YtbnkdfmomcmmaaaDoorW.PrintLast
theorem FnExactAreaOfLoop : laws_FnExactAreaOfLoop.Pure := by
  intro a0 _
  refine ⟨600000, ?_⟩
  unfold laws_FnExactAreaOfLoop.f
  by_cases h : (a0.size : Int) > 1000000
  · rw [if_pos h]
  · rw [if_neg h]
    unfold spec_AreaOfLoop.f impl_AreaOfLoop.f impl_CellsOfLoop.f
    rw [spec_IsLoop_f a0 600000 (by decide), Option.bind_some]
    unfold impl_IsLoop.f impl_cells.f
    cases hB : isLoopB a0 with
    | false => simp
    | true =>
      have h40 := (LoopW_of a0 hB).n40
      rw [loCells_f a0 (LoopW_of a0 hB) 600000 (by decide), if_pos h40]
      simp
end Go.Proofs.YtbnkdfmomcmmaaaDoor.Pure


/- A world in which utf8's two tables are laid. -/
namespace Go.Proofs.YtbnkdfmomcmmaaaDoor.LaidW
abbrev LAID : List (String × DataW Unit) := [("unicode/utf8.acceptRanges", Rows.laid_unicode_utf8_acceptRanges), ("unicode/utf8.first", Rows.laid_unicode_utf8_first)]
def cellsA : Array Value := ([128, 191, 160, 191, 128, 159, 144, 191, 128, 143, 0, 0, 0, 0, 0, 0, 0, 0, 0, 0, 0, 0, 0, 0, 0, 0, 0, 0, 0, 0, 0, 0].map fun k : Nat => Value.int .u8 (k : Int)).toArray
def cellsF : Array Value := (Go.Pinned.utf8FirstZ.map fun k : Nat => Value.int .u8 (k : Int)).toArray
def putCells (c : Array Value) : Obj → Obj
  | .cells _ t frozen => .cells c t frozen
  | o => o
noncomputable def laidWorld (os : Os) : World :=
  { World.holding Tryd.prog os ⟨#[], #[], []⟩ with heap := ((World.holding Tryd.prog os ⟨#[], #[], []⟩).heap.modify 2 (putCells cellsA)).modify 1 (putCells cellsF) }
set_option maxRecDepth 100000 in
theorem laidWorld_met (os : Os) (args : Array Value) : laidMetH Tryd.prog LAID ((laidWorld os).forCall (fun _ _ => 0) ⟨#[], args, []⟩).memory :=
  laidMetH_of_parts (laidMet_of_run' 8 (by kernel_rfl) (by kernel_rfl)) (by kernel_rfl)
end Go.Proofs.YtbnkdfmomcmmaaaDoor.LaidW


namespace Go.Proofs.YtbnkdfmomcmmaaaDoor.fnExactAreaOfLoop
open Go.ChangeMaps (open_string shut_string)
open Go.ChangeShapes Go.WideShapes Go.ChangeAt Go.RowKit Go.Proofs.YtbnkdfmomcmmaaaDoorW.PrintWords Go.Joins
set_option linter.unusedVariables false
theorem own : ownKnob Tryd.prog.godebug = none := Closed.own
theorem laidOut : laidOutB Tryd.prog = true := Closed.laidOut
theorem joined_mk (P : Program) (f : FuncId) (fn : Func) (s : ChangeSpec) (c : OpenClaim) (k0 : (c.wf (OpenSpec.ofChange s)) = true) (k1 : (laidOutB P) = true) (k2 : (mapsRowed P) = true) (k3 : (fn.params.all (P.readableRec ·)) = true) (k4 : (namedTie P c.named s.vars) = true) (k5 : ((c.stops == [])) = true) (k6 : ((P.stops == [])) = true) (k7 : ((c.knobs == [])) = true) (k8 : ((P.stopKnobs == [])) = true) (k9 : ((c.inPlace == P.inPlace f)) = true) (k10 : ((c.unfollowed == P.unfollowed f)) = true) (k11 : ((c.recurses == P.recurses f)) = true) (k12 : ((c.named == P.varsNamed f)) = true) (k13 : ((c.maps == (fn.params.toList ++ s.plain.varTypes P).any (P.mapsRec ·))) = true) (k14 : ((c.ifaces == (fn.params.toList ++ s.plain.varTypes P).any (P.ifacesRec ·))) = true) (k15 : ((c.mapsOut == P.mapsAmong fn.resultTypes.toList)) = true) (k16 : ((c.loops == (fn.params.toList ++ s.plain.varTypes P).any (P.loopsFrom ·))) = true) (k17 : ((c.wideKeys == (fn.params.toList ++ s.plain.varTypes P ++ fn.resultTypes.toList).any (P.wideKeysFrom ·))) = true) (k18 : (s.vars.all (P.varReadable ·)) = true) (k19 : (fn.resultTypes.all (fun t => P.readableRec t && decide (t < P.types.size))) = true) (k20 : ((c.ifacesOut == fn.resultTypes.toList.any (P.ifacesRec ·))) = true) (k21 : ((c.loopsOut == fn.resultTypes.toList.any (P.loopsFrom ·))) = true) (k22 : ((c.plainKeys == P.plainKeys)) = true) (k23 : (c.shortTexts.isNone) = true) (k24 : (P.stopsHeard) = true) (k25 : (P.mayEnter) = true) (k26 : ((c.lifted == P.liftsFinal)) = true) (k27 : ((P.make == some c.make)) = true) (hd : c.domain.isEmpty = true) (k28 : (c.kinds == []) = true) (k29 : ((c.pinned == c.pinnedBy)) = true) (k30 : ((c.veiled == (fn.params.toList ++ s.plain.varTypes P ++ fn.resultTypes.toList).any (P.veiledRec ·))) = true) (k31 : (c.veiledFits P fn.params.toList (fn.params.toList ++ s.plain.varTypes P ++ fn.resultTypes.toList)) = true) : joinedFacts P f fn s c = true := by
  unfold joinedFacts
  simp only [hd, if_true, k0, k1, k2, k3, k4, k5, k6, k7, k8, k9, k10, k11, k12, k13, k14, k15, k16, k17, k18, k19, k20, k21, k22, k23, k24, k25, k26, k27, k28, k29, k30, k31, Bool.and_self]
abbrev LAID : List (String × DataW Unit) := LaidW.LAID
set_option maxRecDepth 100000 in
theorem lifted (os : Os) (started : os.Started) (H : Type) (enc : TypeId × Value → H) :
    ReturnsInHanded {} Tryd.checked os 6 .any (fun w args => (Rows.fnExactAreaOfLoopSpec.pre enc Tryd.prog Tryd.f6 [] false w args ∧ laidMetH Tryd.prog LAID w) ∧ sizedMet enc Tryd.prog Tryd.f6 (OpenSpec.ofChange Rows.fnExactAreaOfLoopSpec) false w args) (Rows.fnExactAreaOfLoopSpec.post enc Tryd.prog Tryd.f6 false true false false) := by
  refine returnsInHanded_of_change_and (C := Tryd.checked) (X := fun w _ => laidMetH Tryd.prog LAID w) (fun _ _ _ hh h => h.of_heap hh) own started (by kernel_rfl) Tryd.func6 (ChangeSpec.witness_at (enc := enc) (C := Tryd.checked) (os := os) (X := fun w _ => laidMetH Tryd.prog LAID w) false (LaidW.laidWorld os) #[.string ByteArray.empty] 8 rfl (by kernel_rfl) (by kernel_rfl) (by kernel_rfl) (by kernel_rfl) (by kernel_rfl) (LaidW.laidWorld_met os _)) ?_
  intro W base args ds gs before hval0 hW hcnd hsz0 hL _
  have hsz : (DataW.weightsEach Tryd.prog (Tryd.f6.params.toList ++ Rows.fnExactAreaOfLoopSpec.plain.varTypes Tryd.prog) (ds ++ gs)).all (· ≤ reachBytes) = true := hsz0
  have hval : ∀ (j : Nat) t v, Tryd.f6.params[j]? = some t → args[j]? = some v → Value.okWide Tryd.prog W .any base t v := hval0
  have hW' := hW
  obtain ⟨p, q, hA0, hV, rfl, hfz, hnd⟩ := hW
  have hA : DataW.TrodAll enc Tryd.prog W 0 (fun _ => true) true Tryd.f6.params.toList args.toList ds p := hA0
  rw [Tryd.params6] at hA hval hsz
  obtain ⟨v0, vs0, d0, ds0, p0, q0, hargs, rfl, rfl, h0, r0⟩ := trodAll_cons hA
  obtain ⟨rfl, rfl, rfl⟩ := trodAll_nil r0
  obtain rfl : args = #[v0] := by cases args; simp_all
  obtain ⟨rfl, rfl⟩ := trodVars_none hV
  obtain ⟨a0, rfl, rfl, rfl, y0⟩ := open_string Tryd.underlying9 (hval 0 9 v0 rfl rfl) h0
  have w0 : a0.size ≤ 140737488351232 := by
    have z := sized_string hsz (j := 0) (t := 9) rfl rfl
    rw [Array.length_toList] at z
    exact z
  clear hA0 hval0 hsz0 hsz
  refine (P.laws_FnExactAreaOfLoop.walk Pure.FnExactAreaOfLoop a0 W w0).mono fun e W' ⟨he, bel⟩ => ?_
  subst he
  exact ⟨_, rfl, _, _, _, [], _, [], hW', trodAll_mk1 (shut_bool Tryd.underlying4 _), (trodAll_cons_mk (shut_string Tryd.underlying9 y0) trodAll_mk0), rfl, bel.frame _, fun h => by cases h⟩
theorem k0_ : (Rows.fnExactAreaOfLoopRow.wf (OpenSpec.ofChange Rows.fnExactAreaOfLoopSpec)) = true := by kernel_rfl
theorem k1_ : (laidOutB Tryd.prog) = true := Closed.laidOut
theorem k2_ : (mapsRowed Tryd.prog) = true := Closed.mapsRowedP
theorem k3_ : (Tryd.f6.params.all (Tryd.prog.readableRec ·)) = true := by kernel_rfl
theorem k4_ : (namedTie Tryd.prog Rows.fnExactAreaOfLoopRow.named Rows.fnExactAreaOfLoopSpec.vars) = true := by kernel_rfl
theorem k5_ : ((Rows.fnExactAreaOfLoopRow.stops == [])) = true := by kernel_rfl
theorem k6_ : ((Tryd.prog.stops == [])) = true := Closed.noStops
theorem k7_ : ((Rows.fnExactAreaOfLoopRow.knobs == [])) = true := by kernel_rfl
theorem k8_ : ((Tryd.prog.stopKnobs == [])) = true := Closed.noKnobs
theorem k9_ : ((Rows.fnExactAreaOfLoopRow.inPlace == Tryd.prog.inPlace 6)) = true := by kernel_rfl
theorem k10_ : ((Rows.fnExactAreaOfLoopRow.unfollowed == Tryd.prog.unfollowed 6)) = true := by kernel_rfl
theorem k11_ : ((Rows.fnExactAreaOfLoopRow.recurses == Tryd.prog.recurses 6)) = true := by kernel_rfl
theorem k12_ : ((Rows.fnExactAreaOfLoopRow.named == Tryd.prog.varsNamed 6)) = true := by kernel_rfl
theorem k13_ : ((Rows.fnExactAreaOfLoopRow.maps == (Tryd.f6.params.toList ++ Rows.fnExactAreaOfLoopSpec.plain.varTypes Tryd.prog).any (Tryd.prog.mapsRec ·))) = true := by kernel_rfl
theorem k14_ : ((Rows.fnExactAreaOfLoopRow.ifaces == (Tryd.f6.params.toList ++ Rows.fnExactAreaOfLoopSpec.plain.varTypes Tryd.prog).any (Tryd.prog.ifacesRec ·))) = true := by kernel_rfl
theorem k15_ : ((Rows.fnExactAreaOfLoopRow.mapsOut == Tryd.prog.mapsAmong Tryd.f6.resultTypes.toList)) = true := by kernel_rfl
theorem k16_ : ((Rows.fnExactAreaOfLoopRow.loops == (Tryd.f6.params.toList ++ Rows.fnExactAreaOfLoopSpec.plain.varTypes Tryd.prog).any (Tryd.prog.loopsFrom ·))) = true := by kernel_rfl
theorem k17_ : ((Rows.fnExactAreaOfLoopRow.wideKeys == (Tryd.f6.params.toList ++ Rows.fnExactAreaOfLoopSpec.plain.varTypes Tryd.prog ++ Tryd.f6.resultTypes.toList).any (Tryd.prog.wideKeysFrom ·))) = true := by kernel_rfl
theorem k18_ : (Rows.fnExactAreaOfLoopSpec.vars.all (Tryd.prog.varReadable ·)) = true := by kernel_rfl
theorem k19_ : (Tryd.f6.resultTypes.all (fun t => Tryd.prog.readableRec t && decide (t < Tryd.prog.types.size))) = true := by kernel_rfl
theorem k20_ : ((Rows.fnExactAreaOfLoopRow.ifacesOut == Tryd.f6.resultTypes.toList.any (Tryd.prog.ifacesRec ·))) = true := by kernel_rfl
theorem k21_ : ((Rows.fnExactAreaOfLoopRow.loopsOut == Tryd.f6.resultTypes.toList.any (Tryd.prog.loopsFrom ·))) = true := by kernel_rfl
theorem k22_ : ((Rows.fnExactAreaOfLoopRow.plainKeys == Tryd.prog.plainKeys)) = true := by kernel_rfl
theorem k23_ : (Rows.fnExactAreaOfLoopRow.shortTexts.isNone) = true := by kernel_rfl
theorem k24_ : (Tryd.prog.stopsHeard) = true := Closed.stopsHeard
theorem k25_ : (Tryd.prog.mayEnter) = true := Closed.mayEnter
theorem k26_ : ((Rows.fnExactAreaOfLoopRow.lifted == Tryd.prog.liftsFinal)) = true := by rw [Closed.liftsFinal]; kernel_rfl
theorem k27_ : ((Tryd.prog.make == some Rows.fnExactAreaOfLoopRow.make)) = true := by rw [Closed.make]; kernel_rfl
theorem k28_ : ((Rows.fnExactAreaOfLoopRow.kinds == [])) = true := by kernel_rfl
theorem k29_ : ((Rows.fnExactAreaOfLoopRow.pinned == Rows.fnExactAreaOfLoopRow.pinnedBy)) = true := by kernel_rfl
theorem k30_ : ((Rows.fnExactAreaOfLoopRow.veiled == (Tryd.f6.params.toList ++ Rows.fnExactAreaOfLoopSpec.plain.varTypes Tryd.prog ++ Tryd.f6.resultTypes.toList).any (Tryd.prog.veiledRec ·))) = true := by kernel_rfl
theorem k31_ : (Rows.fnExactAreaOfLoopRow.veiledFits Tryd.prog Tryd.f6.params.toList (Tryd.f6.params.toList ++ Rows.fnExactAreaOfLoopSpec.plain.varTypes Tryd.prog ++ Tryd.f6.resultTypes.toList)) = true := by kernel_rfl
theorem k99_ : (Rows.fnExactAreaOfLoopRow.domain.isEmpty) = true := by kernel_rfl
theorem closed : joinedFacts Tryd.prog 6 Tryd.f6 Rows.fnExactAreaOfLoopSpec Rows.fnExactAreaOfLoopRow = true :=
  joined_mk _ _ _ _ _ k0_ k1_ k2_ k3_ k4_ k5_ k6_ k7_ k8_ k9_ k10_ k11_ k12_ k13_ k14_ k15_ k16_ k17_ k18_ k19_ k20_ k21_ k22_ k23_ k24_ k25_ k26_ k27_ k99_ k28_ k29_ k30_ k31_
theorem over : Rows.fnExactAreaOfLoopRow.holds Tryd.pinned (OpenSpec.ofChange Rows.fnExactAreaOfLoopSpec) :=
  OpenClaim.holds_of_wide 6 Tryd.f6 rfl rfl rfl rfl rfl rfl rfl ⟨rfl, rfl, rfl, rfl, rfl⟩ rfl rfl rfl rfl rfl (by kernel_rfl) Tryd.func6 closed
    (of_decide_eq_true (by kernel_rfl)) (by unfold Func.isWrapper; first | (rw [if_pos (by decide +kernel)]; kernel_rfl) | (rw [if_neg (by decide +kernel)]; exact ⟨rfl, rfl⟩))
    (fun os started H enc _ => lifted os started H enc)
theorem card : Rows.FnExactAreaOfLoopCardSaid :=
  Claim7.holds_tied_plain_at .later [] [.data, .pinned] true (true, "84cda125a6e89d50074672a516acbbcdb2176f8dae58db17fa89f9ff50f1ca69") false
    over (fun _ h => by cases h) (by kernel_rfl) (fun _ h => by cases h) fnExactAreaOfLoop_row_tie rfl ⟨rfl, rfl⟩ (by kernel_rfl) rfl
    (fun f fn hf hfn => by
      obtain rfl : f = 6 := Option.some.inj ((show Tryd.prog.funcNamed "loop.example/g01233/laws.FnExactAreaOfLoop" = some 6 by kernel_rfl).symm.trans hf) |>.symm
      obtain rfl : fn = Tryd.f6 := (Option.some.inj (Tryd.func6.symm.trans hfn)).symm
      exact ⟨by kernel_rfl, fun j t ht => by
        rw [Tryd.params6] at ht
        have h3 : t = 9 := by
          rcases j with _ | j
          · simpa using ht.symm
          · simp at ht
        subst h3
        exact (show Tryd.prog.wantsStandIn 9 = false by kernel_rfl)⟩)
    (by kernel_rfl)
end Go.Proofs.YtbnkdfmomcmmaaaDoor.fnExactAreaOfLoop
namespace Go.Proofs.YtbnkdfmomcmmaaaDoor
theorem fnExactAreaOfLoop_holds : Rows.FnExactAreaOfLoopCardSaid := fnExactAreaOfLoop.card
end Go.Proofs.YtbnkdfmomcmmaaaDoor


namespace Go.Proofs.YtbnkdfmomcmmaaaDoor.P
open Go.RowKit Go.Proofs.YtbnkdfmomcmmaaaDoorW.PrintWords Go.Proofs.YtbnkdfmomcmmaaaDoorW.PrintLast Go.Proofs.YtbnkdfmomcmmaaaDoorW.PrintMore
attribute [local go_sem] max2_int min2_int max_two min_two max_three min_three max_four min_four   -- for this text's walks alone
set_option linter.unusedVariables false
set_option linter.unusedSimpArgs false

def spec_CellsOfLoop.f (k : Nat) (a0 : ByteArray) : Option ((List (S41)) × Bool) := (spec_IsLoop.f k a0).bind fun t241 => (if t241 = true then ((spec_loCells.f k a0).bind fun t242 => (some (t242, true))) else (some (([] : List (S41)), false)))
theorem spec_CellsOfLoop.mono : ∀ a0 k, LeO (spec_CellsOfLoop.f k a0) (spec_CellsOfLoop.f (k + 1) a0) := by
  intro a0 k
  unfold spec_CellsOfLoop.f
  repeat' first
      | (with_reducible exact spec_IsLoop.mono _ _)
      | (with_reducible exact spec_loCells.mono _ _)
      | (with_reducible exact LeO.refl _)
      | (with_reducible exact LeO.none _)
      | (with_reducible refine LeO.ite ?_ ?_)
      | (with_reducible refine LeO.bind ?_ (fun _ => ?_))
      | exact spec_IsLoop.mono _ _
      | exact spec_loCells.mono _ _
      | exact LeO.none _
      | refine LeO.ite ?_ ?_
      | refine LeO.bind ?_ (fun _ => ?_)
set_option maxHeartbeats 8000000 in
set_option maxRecDepth 100000 in
theorem spec_CellsOfLoop.calls (k : Nat) (a0 : ByteArray) (r1 : List (S41)) (r2 : Bool) (w : World) (h : spec_CellsOfLoop.f k a0 = some (r1, r2)) :
    Calls Tryd.prog 20 #[.string a0] w fun e w' => ∃ v0_ : Value, e = .returned (.tuple #[v0_, .bool r2]) ∧ Kd.R k41 41 w' w.heap.size (fun _ => True) v0_ r1 ∧ Below w.heap.size w w' := by
  have HB := Aside0.mk (Below.refl w.heap.size w)
  have H : ((spec_IsLoop.f k a0).bind fun t241 => (if t241 = true then ((spec_loCells.f k a0).bind fun t242 => (some (t242, true))) else (some (([] : List (S41)), false)))) = some (r1, r2) := h
  clear h
  replace H := Option.bind_eq_some_iff.mp H
  obtain ⟨t241, A20, H⟩ := H
  replace H : (if t241 = true then ((spec_loCells.f k a0).bind fun t242 => (some (t242, true))) else (some (([] : List (S41)), false))) = some (r1, r2) := H
  have A2 := Aside0.mk A20
  clear A20
  by_cases c3 : t241 = true
  · subst c3
    have H1 : ((spec_loCells.f k a0).bind fun t242 => (some (t242, true))) = some (r1, r2) := by rw [if_pos rfl] at H; exact H
    clear H
    have H := H1
    clear H1
    replace H := Option.bind_eq_some_iff.mp H
    obtain ⟨t242, A40, H⟩ := H
    replace H : (some (t242, true)) = some (r1, r2) := H
    have A4 := Aside0.mk A40
    clear A40
    simp only [Option.some.injEq, Prod.mk.injEq] at H
    obtain ⟨rfl, rfl⟩ := H
    go_enter Tryd.func20, Tryd.ntmps20
    go_wp2_with (first | ((with_reducible refine gate_callee (f := 10) rfl ?_); refine goesL_ (some 5) rfl rfl Tryd.func10 (by kernel_rfl) rfl #[.string a0] rfl (by (try simp only [List.map_toArray, List.map_cons, List.map_nil]); first | done | rfl | (simp only [List.length_drop, List.length_take]; rfl)) ?_; (with_reducible refine (spec_IsLoop.calls k a0 true _ A2.out).mono ?_); rintro e w5 ⟨rfl, hb⟩; refine ⟨_, rfl, ?_⟩; have n0_ := Aside0.mk (below_step (by repeat (first | (with_reducible first | exact HB.out | apply below_alloc | apply pw_below_drewN | apply below_drew1) | exact HB.out)) hb); clear HB; have HB := n0_; clear n0_; (try clear hb); (try clear hb2); (try clear hk); (try clear hi)) | ((with_reducible refine gate_callee (f := 35) rfl ?_); refine goesL_ (some 8) rfl rfl Tryd.func35 (by kernel_rfl) rfl #[.string a0] rfl (by (try simp only [List.map_toArray, List.map_cons, List.map_nil]); first | done | rfl | (simp only [List.length_drop, List.length_take]; rfl)) ?_; (with_reducible refine (spec_loCells.calls k a0 t242 _ A4.out).mono ?_); rintro e w6 ⟨v243, rfl, ho0, hb⟩; refine ⟨_, rfl, ?_⟩; have n0_ := Aside0.mk (Kd.R_lower ho0 (below_size (by repeat (first | (with_reducible first | exact HB.out | apply below_alloc | apply pw_below_drewN | apply below_drew1) | exact HB.out)))); have n1_ := Aside0.mk (below_step (by repeat (first | (with_reducible first | exact HB.out | apply below_alloc | apply pw_below_drewN | apply below_drew1) | exact HB.out)) hb); clear HB; have HO244 := n0_; have HB := n1_; clear n0_ n1_; (try clear hb); (try clear hb2); (try clear hk); (try clear hi); (try clear ho0)))
    go_ret2
    exact ⟨_, by first | rfl | (simp [errW_none, errW_some] <;> rfl) | (simp [*, errW_none, errW_some] <;> rfl), by (with_reducible repeat (first | apply Kd.R_alloc | apply Kd.R_drewN | apply Kd.R_drew)); exact HO244.out, by repeat (first | (with_reducible first | exact HB.out | apply below_alloc | apply pw_below_drewN | apply below_drew1) | exact HB.out)⟩
  · replace c3 := Bool.eq_false_iff.mpr c3
    subst c3
    have H1 : (some (([] : List (S41)), false)) = some (r1, r2) := by rw [if_neg (show ¬ (false = true) by decide)] at H; exact H
    clear H
    have H := H1
    clear H1
    simp only [Option.some.injEq, Prod.mk.injEq] at H
    obtain ⟨rfl, rfl⟩ := H
    go_enter Tryd.func20, Tryd.ntmps20
    go_wp2_with (first | ((with_reducible refine gate_callee (f := 10) rfl ?_); refine goesL_ (some 5) rfl rfl Tryd.func10 (by kernel_rfl) rfl #[.string a0] rfl (by (try simp only [List.map_toArray, List.map_cons, List.map_nil]); first | done | rfl | (simp only [List.length_drop, List.length_take]; rfl)) ?_; (with_reducible refine (spec_IsLoop.calls k a0 false _ A2.out).mono ?_); rintro e w7 ⟨rfl, hb⟩; refine ⟨_, rfl, ?_⟩; have n0_ := Aside0.mk (below_step (by repeat (first | (with_reducible first | exact HB.out | apply below_alloc | apply pw_below_drewN | apply below_drew1) | exact HB.out)) hb); clear HB; have HB := n0_; clear n0_; (try clear hb); (try clear hb2); (try clear hk); (try clear hi)))
    go_ret2
    exact ⟨_, by first | rfl | (simp [errW_none, errW_some] <;> rfl) | (simp [*, errW_none, errW_some] <;> rfl), by first | exact Kd.R_nil _ _ _ _ _ | exact Kd.N_nil _ _ _ _ _ | exact Kd.V_nil _ _ _ _ _ | exact Kd.Q_nil _ _ _ _ _ | exact Kd.S_nil _ _ _ _ _, by repeat (first | (with_reducible first | exact HB.out | apply below_alloc | apply pw_below_drewN | apply below_drew1) | exact HB.out)⟩

end Go.Proofs.YtbnkdfmomcmmaaaDoor.P


namespace Go.Proofs.YtbnkdfmomcmmaaaDoor.P
open Go.RowKit Go.Proofs.YtbnkdfmomcmmaaaDoorW.PrintWords Go.Proofs.YtbnkdfmomcmmaaaDoorW.PrintLast Go.Proofs.YtbnkdfmomcmmaaaDoorW.PrintMore
attribute [local go_sem] max2_int min2_int max_two min_two max_three min_three max_four min_four   -- for this text's walks alone
set_option linter.unusedVariables false
set_option linter.unusedSimpArgs false

def laws_eqCorner.f (a0_0 : Int) (a0_1 : Int) (a1_0 : Int) (a1_1 : Int) : Option (Bool) := if a0_0 = a1_0 then (if a0_1 = a1_1 then (some true) else (some false)) else (some false)
set_option maxHeartbeats 8000000 in
set_option maxRecDepth 100000 in
theorem laws_eqCorner.calls (a0_0 : Int) (a0_1 : Int) (a1_0 : Int) (a1_1 : Int) (r : Bool) (w : World) (h : laws_eqCorner.f a0_0 a0_1 a1_0 a1_1 = some r) :
    Calls Tryd.prog 40 #[.agg #[.int .i64 a0_0, .int .i64 a0_1], .agg #[.int .i64 a1_0, .int .i64 a1_1]] w fun e w' => e = .returned (.bool r) ∧ Below w.heap.size w w' := by
  have hu41 := Tryd.underlying41
  have HB := Aside0.mk (Below.refl w.heap.size w)
  have H : (if a0_0 = a1_0 then (if a0_1 = a1_1 then (some true) else (some false)) else (some false)) = some r := h
  clear h
  by_cases c3 : a0_0 = a1_0
  · rw [if_pos c3] at H
    have c3b0 : (a0_0 == a1_0) = true := beq_iff_eq.mpr c3
    have c3b1 : (a0_0 != a1_0) = false := bne_eq_false_iff_eq.mpr c3
    clear c3
    by_cases c4 : a0_1 = a1_1
    · rw [if_pos c4] at H
      have c4b0 : (a0_1 == a1_1) = true := beq_iff_eq.mpr c4
      have c4b1 : (a0_1 != a1_1) = false := bne_eq_false_iff_eq.mpr c4
      clear c4
      obtain rfl := Option.some.inj H
      go_enter Tryd.func40, Tryd.ntmps40
      go_wp2_with (first | ((with_reducible refine gate_dst (N := 2) rfl ?_); refine box_event ?hg (N := 2) ?hd (cs := #[.int .i64 a0_0, .int .i64 a0_1]) (t := 41) ?hr ?_; (case hd => rfl); (case hg => rfl); (case hr => first | (go_simp; done) | (go_simp; rfl)); intro gb245 hg w5 hbox hb; have n0_ := Aside0.mk (below_step (by repeat (first | (with_reducible first | exact HB.out | apply below_alloc | apply pw_below_drewN | apply below_drew1) | exact HB.out)) hb); have n1_ := Aside0.mk (hbox); have n2_ := Aside0.mk ((by rw [hg]; exact (below_size (by repeat (first | (with_reducible first | exact HB.out | apply below_alloc | apply pw_below_drewN | apply below_drew1) | exact HB.out))) : w.heap.size ≤ gb245)); have n3_ := Aside0.mk ((by rw [hg]; exact (below_size (by repeat (first | (with_reducible first | exact HB.out | apply below_alloc | apply pw_below_drewN | apply below_drew1) | exact HB.out))) : w.heap.size ≤ gb245)); clear HB; have HB := n0_; have BK245 := n1_; have GW245 := n2_; have GE245 := n3_; clear n0_ n1_ n2_ n3_; clear hb hbox hg) | ((with_reducible refine gate_dst (N := 3) rfl ?_); refine box_event ?hg (N := 3) ?hd (cs := #[.int .i64 a1_0, .int .i64 a1_1]) (t := 41) ?hr ?_; (case hd => rfl); (case hg => rfl); (case hr => first | (go_simp; done) | (go_simp; rfl)); intro gb246 hg w6 hbox hb; have n0_ := Aside0.mk (blk_below (g := gb245) (o := .cells #[.int .i64 a0_0, .int .i64 a0_1] 41 (0, 0)) (by (with_reducible repeat (first | refine blk_drewN ?_ _ | refine blk_drew ?_ | refine blk_alloc ?_ _)); exact BK245.out) hb); have n1_ := Aside0.mk (below_step (by repeat (first | (with_reducible first | exact HB.out | apply below_alloc | apply pw_below_drewN | apply below_drew1 | refine below_set ?_ GE245.out) | exact HB.out)) hb); have n2_ := Aside0.mk (hbox); have n3_ := Aside0.mk ((by rw [hg]; exact (below_size (by repeat (first | (with_reducible first | exact HB.out | apply below_alloc | apply pw_below_drewN | apply below_drew1 | refine below_set ?_ GE245.out) | exact HB.out))) : w.heap.size ≤ gb246)); have n4_ := Aside0.mk ((by rw [hg]; exact (below_size (by repeat (first | (with_reducible first | exact HB.out | apply below_alloc | apply pw_below_drewN | apply below_drew1 | refine below_set ?_ GE245.out) | exact HB.out))) : w.heap.size ≤ gb246)); have n5_ := Aside0.mk ((by rw [hg]; exact Nat.ne_of_lt (blk_lt (g := gb245) (o := .cells #[.int .i64 a0_0, .int .i64 a0_1] 41 (0, 0)) (by (with_reducible repeat (first | refine blk_drewN ?_ _ | refine blk_drew ?_ | refine blk_alloc ?_ _)); exact BK245.out)) : gb245 ≠ gb246)); have n6_ := Aside0.mk ((by rw [hg]; exact Nat.ne_of_gt (blk_lt (g := gb245) (o := .cells #[.int .i64 a0_0, .int .i64 a0_1] 41 (0, 0)) (by (with_reducible repeat (first | refine blk_drewN ?_ _ | refine blk_drew ?_ | refine blk_alloc ?_ _)); exact BK245.out)) : gb246 ≠ gb245)); clear BK245; clear HB; have BK245 := n0_; have HB := n1_; have BK246 := n2_; have GW246 := n3_; have GE246 := n4_; have NB245_246 := n5_; have NB246_245 := n6_; clear n0_ n1_ n2_ n3_ n4_ n5_ n6_; clear hb hbox hg; have hnb7 := NB245_246.out; have hnc7 := NB246_245.out; have hcz8_0 : w6.cell? ⟨gb245, 0, none⟩ = some (.int .i64 a0_0) := (blk_cell BK245.out 0).trans rfl; have hcz8_1 : w6.cell? ⟨gb245, 1, none⟩ = some (.int .i64 a0_1) := (blk_cell BK245.out 1).trans rfl; have hfz8_0 := blk_frozen BK245.out 0; have hfz8_1 := blk_frozen BK245.out 1; have hcz9_0 : w6.cell? ⟨gb246, 0, none⟩ = some (.int .i64 a1_0) := (blk_cell BK246.out 0).trans rfl; have hcz9_1 : w6.cell? ⟨gb246, 1, none⟩ = some (.int .i64 a1_1) := (blk_cell BK246.out 1).trans rfl; have hfz9_0 := blk_frozen BK246.out 0; have hfz9_1 := blk_frozen BK246.out 1))
      go_ret
      exact ⟨by first | rfl | (simp [errW_none, errW_some] <;> rfl) | (simp [*, errW_none, errW_some] <;> rfl), by repeat (first | (with_reducible first | exact HB.out | apply below_alloc | apply pw_below_drewN | apply below_drew1 | refine below_set ?_ GE245.out | refine below_set ?_ GE246.out) | exact HB.out)⟩
    · rw [if_neg c4] at H
      have c4b0 : (a0_1 == a1_1) = false := beq_eq_false_iff_ne.mpr c4
      have c4b1 : (a0_1 != a1_1) = true := bne_iff_ne.mpr c4
      obtain rfl := Option.some.inj H
      go_enter Tryd.func40, Tryd.ntmps40
      go_wp2_with (first | ((with_reducible refine gate_dst (N := 2) rfl ?_); refine box_event ?hg (N := 2) ?hd (cs := #[.int .i64 a0_0, .int .i64 a0_1]) (t := 41) ?hr ?_; (case hd => rfl); (case hg => rfl); (case hr => first | (go_simp; done) | (go_simp; rfl)); intro gb245 hg w10 hbox hb; have n0_ := Aside0.mk (below_step (by repeat (first | (with_reducible first | exact HB.out | apply below_alloc | apply pw_below_drewN | apply below_drew1) | exact HB.out)) hb); have n1_ := Aside0.mk (hbox); have n2_ := Aside0.mk ((by rw [hg]; exact (below_size (by repeat (first | (with_reducible first | exact HB.out | apply below_alloc | apply pw_below_drewN | apply below_drew1) | exact HB.out))) : w.heap.size ≤ gb245)); have n3_ := Aside0.mk ((by rw [hg]; exact (below_size (by repeat (first | (with_reducible first | exact HB.out | apply below_alloc | apply pw_below_drewN | apply below_drew1) | exact HB.out))) : w.heap.size ≤ gb245)); clear HB; have HB := n0_; have BK245 := n1_; have GW245 := n2_; have GE245 := n3_; clear n0_ n1_ n2_ n3_; clear hb hbox hg) | ((with_reducible refine gate_dst (N := 3) rfl ?_); refine box_event ?hg (N := 3) ?hd (cs := #[.int .i64 a1_0, .int .i64 a1_1]) (t := 41) ?hr ?_; (case hd => rfl); (case hg => rfl); (case hr => first | (go_simp; done) | (go_simp; rfl)); intro gb246 hg w11 hbox hb; have n0_ := Aside0.mk (blk_below (g := gb245) (o := .cells #[.int .i64 a0_0, .int .i64 a0_1] 41 (0, 0)) (by (with_reducible repeat (first | refine blk_drewN ?_ _ | refine blk_drew ?_ | refine blk_alloc ?_ _)); exact BK245.out) hb); have n1_ := Aside0.mk (below_step (by repeat (first | (with_reducible first | exact HB.out | apply below_alloc | apply pw_below_drewN | apply below_drew1 | refine below_set ?_ GE245.out) | exact HB.out)) hb); have n2_ := Aside0.mk (hbox); have n3_ := Aside0.mk ((by rw [hg]; exact (below_size (by repeat (first | (with_reducible first | exact HB.out | apply below_alloc | apply pw_below_drewN | apply below_drew1 | refine below_set ?_ GE245.out) | exact HB.out))) : w.heap.size ≤ gb246)); have n4_ := Aside0.mk ((by rw [hg]; exact (below_size (by repeat (first | (with_reducible first | exact HB.out | apply below_alloc | apply pw_below_drewN | apply below_drew1 | refine below_set ?_ GE245.out) | exact HB.out))) : w.heap.size ≤ gb246)); have n5_ := Aside0.mk ((by rw [hg]; exact Nat.ne_of_lt (blk_lt (g := gb245) (o := .cells #[.int .i64 a0_0, .int .i64 a0_1] 41 (0, 0)) (by (with_reducible repeat (first | refine blk_drewN ?_ _ | refine blk_drew ?_ | refine blk_alloc ?_ _)); exact BK245.out)) : gb245 ≠ gb246)); have n6_ := Aside0.mk ((by rw [hg]; exact Nat.ne_of_gt (blk_lt (g := gb245) (o := .cells #[.int .i64 a0_0, .int .i64 a0_1] 41 (0, 0)) (by (with_reducible repeat (first | refine blk_drewN ?_ _ | refine blk_drew ?_ | refine blk_alloc ?_ _)); exact BK245.out)) : gb246 ≠ gb245)); clear BK245; clear HB; have BK245 := n0_; have HB := n1_; have BK246 := n2_; have GW246 := n3_; have GE246 := n4_; have NB245_246 := n5_; have NB246_245 := n6_; clear n0_ n1_ n2_ n3_ n4_ n5_ n6_; clear hb hbox hg; have hnb12 := NB245_246.out; have hnc12 := NB246_245.out; have hcz13_0 : w11.cell? ⟨gb245, 0, none⟩ = some (.int .i64 a0_0) := (blk_cell BK245.out 0).trans rfl; have hcz13_1 : w11.cell? ⟨gb245, 1, none⟩ = some (.int .i64 a0_1) := (blk_cell BK245.out 1).trans rfl; have hfz13_0 := blk_frozen BK245.out 0; have hfz13_1 := blk_frozen BK245.out 1; have hcz14_0 : w11.cell? ⟨gb246, 0, none⟩ = some (.int .i64 a1_0) := (blk_cell BK246.out 0).trans rfl; have hcz14_1 : w11.cell? ⟨gb246, 1, none⟩ = some (.int .i64 a1_1) := (blk_cell BK246.out 1).trans rfl; have hfz14_0 := blk_frozen BK246.out 0; have hfz14_1 := blk_frozen BK246.out 1))
      go_ret
      exact ⟨by first | rfl | (simp [errW_none, errW_some] <;> rfl) | (simp [*, errW_none, errW_some] <;> rfl), by repeat (first | (with_reducible first | exact HB.out | apply below_alloc | apply pw_below_drewN | apply below_drew1 | refine below_set ?_ GE245.out | refine below_set ?_ GE246.out) | exact HB.out)⟩
  · rw [if_neg c3] at H
    have c3b0 : (a0_0 == a1_0) = false := beq_eq_false_iff_ne.mpr c3
    have c3b1 : (a0_0 != a1_0) = true := bne_iff_ne.mpr c3
    obtain rfl := Option.some.inj H
    go_enter Tryd.func40, Tryd.ntmps40
    go_wp2_with (first | ((with_reducible refine gate_dst (N := 2) rfl ?_); refine box_event ?hg (N := 2) ?hd (cs := #[.int .i64 a0_0, .int .i64 a0_1]) (t := 41) ?hr ?_; (case hd => rfl); (case hg => rfl); (case hr => first | (go_simp; done) | (go_simp; rfl)); intro gb245 hg w15 hbox hb; have n0_ := Aside0.mk (below_step (by repeat (first | (with_reducible first | exact HB.out | apply below_alloc | apply pw_below_drewN | apply below_drew1) | exact HB.out)) hb); have n1_ := Aside0.mk (hbox); have n2_ := Aside0.mk ((by rw [hg]; exact (below_size (by repeat (first | (with_reducible first | exact HB.out | apply below_alloc | apply pw_below_drewN | apply below_drew1) | exact HB.out))) : w.heap.size ≤ gb245)); have n3_ := Aside0.mk ((by rw [hg]; exact (below_size (by repeat (first | (with_reducible first | exact HB.out | apply below_alloc | apply pw_below_drewN | apply below_drew1) | exact HB.out))) : w.heap.size ≤ gb245)); clear HB; have HB := n0_; have BK245 := n1_; have GW245 := n2_; have GE245 := n3_; clear n0_ n1_ n2_ n3_; clear hb hbox hg) | ((with_reducible refine gate_dst (N := 3) rfl ?_); refine box_event ?hg (N := 3) ?hd (cs := #[.int .i64 a1_0, .int .i64 a1_1]) (t := 41) ?hr ?_; (case hd => rfl); (case hg => rfl); (case hr => first | (go_simp; done) | (go_simp; rfl)); intro gb246 hg w16 hbox hb; have n0_ := Aside0.mk (blk_below (g := gb245) (o := .cells #[.int .i64 a0_0, .int .i64 a0_1] 41 (0, 0)) (by (with_reducible repeat (first | refine blk_drewN ?_ _ | refine blk_drew ?_ | refine blk_alloc ?_ _)); exact BK245.out) hb); have n1_ := Aside0.mk (below_step (by repeat (first | (with_reducible first | exact HB.out | apply below_alloc | apply pw_below_drewN | apply below_drew1 | refine below_set ?_ GE245.out) | exact HB.out)) hb); have n2_ := Aside0.mk (hbox); have n3_ := Aside0.mk ((by rw [hg]; exact (below_size (by repeat (first | (with_reducible first | exact HB.out | apply below_alloc | apply pw_below_drewN | apply below_drew1 | refine below_set ?_ GE245.out) | exact HB.out))) : w.heap.size ≤ gb246)); have n4_ := Aside0.mk ((by rw [hg]; exact (below_size (by repeat (first | (with_reducible first | exact HB.out | apply below_alloc | apply pw_below_drewN | apply below_drew1 | refine below_set ?_ GE245.out) | exact HB.out))) : w.heap.size ≤ gb246)); have n5_ := Aside0.mk ((by rw [hg]; exact Nat.ne_of_lt (blk_lt (g := gb245) (o := .cells #[.int .i64 a0_0, .int .i64 a0_1] 41 (0, 0)) (by (with_reducible repeat (first | refine blk_drewN ?_ _ | refine blk_drew ?_ | refine blk_alloc ?_ _)); exact BK245.out)) : gb245 ≠ gb246)); have n6_ := Aside0.mk ((by rw [hg]; exact Nat.ne_of_gt (blk_lt (g := gb245) (o := .cells #[.int .i64 a0_0, .int .i64 a0_1] 41 (0, 0)) (by (with_reducible repeat (first | refine blk_drewN ?_ _ | refine blk_drew ?_ | refine blk_alloc ?_ _)); exact BK245.out)) : gb246 ≠ gb245)); clear BK245; clear HB; have BK245 := n0_; have HB := n1_; have BK246 := n2_; have GW246 := n3_; have GE246 := n4_; have NB245_246 := n5_; have NB246_245 := n6_; clear n0_ n1_ n2_ n3_ n4_ n5_ n6_; clear hb hbox hg; have hnb17 := NB245_246.out; have hnc17 := NB246_245.out; have hcz18_0 : w16.cell? ⟨gb245, 0, none⟩ = some (.int .i64 a0_0) := (blk_cell BK245.out 0).trans rfl; have hcz18_1 : w16.cell? ⟨gb245, 1, none⟩ = some (.int .i64 a0_1) := (blk_cell BK245.out 1).trans rfl; have hfz18_0 := blk_frozen BK245.out 0; have hfz18_1 := blk_frozen BK245.out 1; have hcz19_0 : w16.cell? ⟨gb246, 0, none⟩ = some (.int .i64 a1_0) := (blk_cell BK246.out 0).trans rfl; have hcz19_1 : w16.cell? ⟨gb246, 1, none⟩ = some (.int .i64 a1_1) := (blk_cell BK246.out 1).trans rfl; have hfz19_0 := blk_frozen BK246.out 0; have hfz19_1 := blk_frozen BK246.out 1))
    go_ret
    exact ⟨by first | rfl | (simp [errW_none, errW_some] <;> rfl) | (simp [*, errW_none, errW_some] <;> rfl), by repeat (first | (with_reducible first | exact HB.out | apply below_alloc | apply pw_below_drewN | apply below_drew1 | refine below_set ?_ GE245.out | refine below_set ?_ GE246.out) | exact HB.out)⟩

end Go.Proofs.YtbnkdfmomcmmaaaDoor.P


namespace Go.Proofs.YtbnkdfmomcmmaaaDoor.P
open Go.RowKit Go.Proofs.YtbnkdfmomcmmaaaDoorW.PrintWords Go.Proofs.YtbnkdfmomcmmaaaDoorW.PrintLast Go.Proofs.YtbnkdfmomcmmaaaDoorW.PrintMore
attribute [local go_sem] max2_int min2_int max_two min_two max_three min_three max_four min_four   -- for this text's walks alone
set_option linter.unusedVariables false
set_option linter.unusedSimpArgs false

def laws_eqCornerS.l0 : Nat → List (S41) → List (S41) → Int → Option (Bool)
  | 0, _, _, _ => none
  | k + 1, x0, x1, x5 => if x5 < (x0.length : Int) then (if 0 ≤ x5 then (if x5 < (x1.length : Int) then ((laws_eqCorner.f ((rd_T41 x0 x5).f0) ((rd_T41 x0 x5).f1) ((rd_T41 x1 x5).f0) ((rd_T41 x1 x5).f1)).bind fun t249 => (if t249 = true then (laws_eqCornerS.l0 k x0 x1 (wrap64 (x5 + 1))) else (some false))) else (none)) else (none)) else (some true)
def laws_eqCornerS.f (k : Nat) (l0 : List (S41)) (l1 : List (S41)) : Option (Bool) := if (l0.length : Int) = (l1.length : Int) then (laws_eqCornerS.l0 k l0 l1 0) else (some false)
theorem laws_eqCornerS.mono_l : ∀ k, (∀ y0 y1 y2, LeO (laws_eqCornerS.l0 k y0 y1 y2) (laws_eqCornerS.l0 (k + 1) y0 y1 y2))
  | 0 => fun _ _ _ r h => by simp [laws_eqCornerS.l0] at h
  | k + 1 => by
    have ih0 := laws_eqCornerS.mono_l k
    · intro y0 y1 y2
      unfold laws_eqCornerS.l0
      repeat' first
      | (with_reducible exact ih0 _ _ _)
      | (with_reducible exact LeO.refl _)
      | (with_reducible exact LeO.none _)
      | (with_reducible refine LeO.ite ?_ ?_)
      | (with_reducible refine LeO.bind ?_ (fun _ => ?_))
      | exact ih0 _ _ _
      | exact LeO.none _
      | refine LeO.ite ?_ ?_
      | refine LeO.bind ?_ (fun _ => ?_)
theorem laws_eqCornerS.mono : ∀ a0 a1 k, LeO (laws_eqCornerS.f k a0 a1) (laws_eqCornerS.f (k + 1) a0 a1) := by
  intro a0 a1 k
  have ih0 := laws_eqCornerS.mono_l k
  unfold laws_eqCornerS.f
  repeat' first
      | (with_reducible exact ih0 _ _ _)
      | (with_reducible exact LeO.refl _)
      | (with_reducible exact LeO.none _)
      | (with_reducible refine LeO.ite ?_ ?_)
      | (with_reducible refine LeO.bind ?_ (fun _ => ?_))
      | exact ih0 _ _ _
      | exact LeO.none _
      | refine LeO.ite ?_ ?_
      | refine LeO.bind ?_ (fun _ => ?_)
def laws_eqCornerS.T6 : Bool × List (List Nat × List Nat) := (true, [([], []), ([], []), ([0, 1], [0, 1]), ([2], [2]), ([], []), ([], []), ([4, 5], [4, 5]), ([6], [6]), ([3, 7], [3, 7]), ([8], [8])])
def laws_eqCornerS.B6 : List Nat := [0, 0, 3, 7, 0, 0, 48, 112, 255, 511]
theorem laws_eqCornerS.tab6 : rtab .any (opsOf Tryd.f22 6) = laws_eqCornerS.T6 := by kernel_rfl
theorem laws_eqCornerS.bits6 : waitsOk laws_eqCornerS.T6.2 laws_eqCornerS.B6 = true := by kernel_rfl
set_option maxHeartbeats 8000000 in
set_option maxRecDepth 100000 in
theorem laws_eqCornerS.calls (k : Nat) (A0 : Option Addr) (c0 : Nat) (l0 : List (S41)) (A1 : Option Addr) (c1 : Nat) (l1 : List (S41)) (r : Bool) (w : World) (hr0 : Kd.C k41 w A0 l0.length l0) (hc0 : l0.length ≤ c0) (hr1 : Kd.C k41 w A1 l1.length l1) (hc1 : l1.length ≤ c1) (h : laws_eqCornerS.f k l0 l1 = some r) :
    Calls Tryd.prog 22 #[.slice A0 l0.length c0, .slice A1 l1.length c1] w fun e w' => e = .returned (.bool r) ∧ Below w.heap.size w w' := by
  have hu41 := Tryd.underlying41
  have HR0 := Aside0.mk hr0
  have HC0 := Aside0.mk hc0
  clear hr0 hc0
  have HR1 := Aside0.mk hr1
  have HC1 := Aside0.mk hc1
  clear hr1 hc1
  have HB := Aside0.mk (Below.refl w.heap.size w)
  have H : (if (l0.length : Int) = (l1.length : Int) then (laws_eqCornerS.l0 k l0 l1 0) else (some false)) = some r := h
  clear h
  by_cases c3 : (l0.length : Int) = (l1.length : Int)
  · rw [if_pos c3] at H
    have c3b0 : ((l0.length : Int) == (l1.length : Int)) = true := beq_iff_eq.mpr c3
    have c3b1 : ((l0.length : Int) != (l1.length : Int)) = false := bne_eq_false_iff_eq.mpr c3
    have c3b2 : (l0.length == l1.length) = true := by first | simpa using c3 | (simp at c3 ⊢; omega)
    clear c3
    have H' := Aside0.mk H
    clear H
    go_enter Tryd.func22, Tryd.ntmps22
    go_wp2
    go_loopg [5] k (fun kq v5 w' => ∃ (x5_1 : Int), v5 = .int .i64 x5_1 ∧ Aside0 (laws_eqCornerS.l0 kq l0 l1 x5_1 = some r) ∧ Aside0 (kq ≤ k) ∧ Aside0 (Below w.heap.size w w'))
    case atStart => exact ⟨(0), (by first | rfl | (simp; done) | (simp [*]; done)), H', ⟨Nat.le_refl _⟩, ⟨by repeat (first | (with_reducible first | exact HB.out | apply below_alloc | apply pw_below_drewN | apply below_drew1) | exact HB.out)⟩⟩
    case round =>
      clear H'
      try clear c1
      try clear c2
      try clear p2
      try clear c3
      try clear c3b0
      try clear c3b1
      try clear c3b2
      obtain ⟨x5_1, rfl, HA, HK1, HB⟩ := hrel
      cases gk with
      | zero => exact absurd HA.out (by simp [laws_eqCornerS.l0])
      | succ k1 =>
        have H := HA.out
        clear HA
        simp only [laws_eqCornerS.l0] at H
        by_cases c4 : x5_1 < (l0.length : Int)
        · rw [if_pos c4] at H
          have c4b0 : decide (x5_1 < (l0.length : Int)) = true := decide_eq_true c4
          clear c4
          by_cases c5 : 0 ≤ x5_1
          · rw [if_pos c5] at H
            have c5b0 : decide (0 ≤ x5_1) = true := decide_eq_true c5
            clear c5
            by_cases c6 : x5_1 < (l1.length : Int)
            · rw [if_pos c6] at H
              have c6b0 : decide (x5_1 < (l1.length : Int)) = true := decide_eq_true c6
              clear c6
              replace H := Option.bind_eq_some_iff.mp H
              obtain ⟨t249, A70, H⟩ := H
              replace H : (if t249 = true then (laws_eqCornerS.l0 k1 l0 l1 (wrap64 (x5_1 + 1))) else (some false)) = some r := H
              have A7 := Aside0.mk A70
              clear A70
              by_cases c8 : t249 = true
              · subst c8
                have H1 : (laws_eqCornerS.l0 k1 l0 l1 (wrap64 (x5_1 + 1))) = some r := by rw [if_pos rfl] at H; exact H
                clear H
                have H := H1
                clear H1
                have H' := Aside0.mk H
                clear H
                try go_wp2
                have n0_ := Aside0.mk (below_drew1 HB.out)
                clear HB
                have HB := n0_
                clear n0_
                have p247 : 0 ≤ (x5_1 : Int) := of_decide_eq_true (by first | (with_reducible assumption) | assumption)
                have q247 : x5_1 < (l0.length : Int) := of_decide_eq_true (by first | (with_reducible assumption) | assumption)
                obtain ⟨ad247, e247, hx247_0, hx247_1⟩ := at_T41 HR0.out x5_1 p247 q247
                have hw247_1 := hx247_1
                have hw247_0 := hx247_0
                cases e247
                replace hx247_0 := (HB.out.cell (World.block_lt_of_cell? w _ hx247_0)).trans hx247_0
                replace hx247_1 := (HB.out.cell (World.block_lt_of_cell? w _ hx247_1)).trans hx247_1
                replace p247 := eq_true p247
                replace q247 := eq_true q247
                have p248 : 0 ≤ (x5_1 : Int) := of_decide_eq_true (by first | (with_reducible assumption) | assumption)
                have q248 : x5_1 < (l1.length : Int) := of_decide_eq_true (by first | (with_reducible assumption) | assumption)
                obtain ⟨ad248, e248, hx248_0, hx248_1⟩ := at_T41 HR1.out x5_1 p248 q248
                have hw248_1 := hx248_1
                have hw248_0 := hx248_0
                cases e248
                replace hx248_0 := (HB.out.cell (World.block_lt_of_cell? w _ hx248_0)).trans hx248_0
                replace hx248_1 := (HB.out.cell (World.block_lt_of_cell? w _ hx248_1)).trans hx248_1
                replace p248 := eq_true p248
                replace q248 := eq_true q248
                refine start_ (n := 10) (S := fun w' => w'.cell? (ad247.add ((x5_1).toNat * 2)) = some (.int .i64 ((rd_T41 l0 x5_1).f0)) ∧ w'.cell? ⟨(ad247.add ((x5_1).toNat * 2)).block, (ad247.add ((x5_1).toNat * 2)).off + 1, none⟩ = some (.int .i64 ((rd_T41 l0 x5_1).f1)) ∧ w'.cell? (ad248.add ((x5_1).toNat * 2)) = some (.int .i64 ((rd_T41 l1 x5_1).f0)) ∧ w'.cell? ⟨(ad248.add ((x5_1).toNat * 2)).block, (ad248.add ((x5_1).toNat * 2)).off + 1, none⟩ = some (.int .i64 ((rd_T41 l1 x5_1).f1))) (ds := []) #[false, false, false, false, false, false, false, false, false, false] (by kernel_rfl) rfl rfl ⟨((HB.out.cell (World.block_lt_of_cell? w _ hw247_0)).trans hw247_0), ((HB.out.cell (World.block_lt_of_cell? w _ hw247_1)).trans hw247_1), ((HB.out.cell (World.block_lt_of_cell? w _ hw248_0)).trans hw248_0), ((HB.out.cell (World.block_lt_of_cell? w _ hw248_1)).trans hw248_1)⟩ (fun hHeld => ?_); refine with_tabW laws_eqCornerS.tab6 laws_eqCornerS.bits6 (fun HT_ HW_ => ?_)
                generalize wr.drew = w9 at HB hx247_0 hx247_1 hx248_0 hx248_1 hHeld ⊢
                refine pure_ (i := 0) (N := some 17) (v := ?_) (a' := ?_) #[true, false, false, false, false, false, false, false, false, false] rfl rfl (any_of HT_.out (by kernel_rfl)) (fun _ _ _ h => h) (Or.inl ⟨by rfl, ?_⟩) ?_ ?_
                rotate_left
                · intro w'
                  go_simp
                  with_reducible rfl
                rotate_left
                · simp only [Act.put, List.setIfInBounds_toArray, List.set_cons_zero, List.set_cons_succ, i64_w, i32_w]
                  rfl
                refine pure_ (i := 1) (N := some 18) (v := ?_) (a' := ?_) #[true, true, false, false, false, false, false, false, false, false] rfl rfl (any_of HT_.out (by kernel_rfl)) (fun _ _ _ h => h) (Or.inl ⟨by rfl, ?_⟩) ?_ ?_
                rotate_left
                · intro w'
                  go_simp
                  with_reducible rfl
                rotate_left
                · simp only [Act.put, List.setIfInBounds_toArray, List.set_cons_zero, List.set_cons_succ, i64_w, i32_w]
                  rfl
                refine pure_ (i := 2) (N := some 19) (v := ?_) (a' := ?_) #[true, true, true, false, false, false, false, false, false, false] rfl rfl (any_of HT_.out (by kernel_rfl)) (fun _ _ _ h => h) (Or.inl ⟨by rfl, ?_⟩) ?_ ?_
                rotate_left
                · intro w'
                  go_simp
                  with_reducible rfl
                rotate_left
                · simp only [Act.put, List.setIfInBounds_toArray, List.set_cons_zero, List.set_cons_succ, i64_w, i32_w]
                  rfl
                refine pure_ (i := 4) (N := some 21) (v := ?_) (a' := ?_) #[true, true, true, false, true, false, false, false, false, false] rfl rfl (any_of HT_.out (by kernel_rfl)) (fun _ _ _ h => h) (Or.inl ⟨by rfl, ?_⟩) ?_ ?_
                rotate_left
                · intro w'
                  go_simp
                  with_reducible rfl
                rotate_left
                · simp only [Act.put, List.setIfInBounds_toArray, List.set_cons_zero, List.set_cons_succ, i64_w, i32_w]
                  rfl
                refine pure_ (i := 5) (N := some 22) (v := ?_) (a' := ?_) #[true, true, true, false, true, true, false, false, false, false] rfl rfl (any_of HT_.out (by kernel_rfl)) (fun _ _ _ h => h) (Or.inl ⟨by rfl, ?_⟩) ?_ ?_
                rotate_left
                · intro w'
                  go_simp
                  with_reducible rfl
                rotate_left
                · simp only [Act.put, List.setIfInBounds_toArray, List.set_cons_zero, List.set_cons_succ, i64_w, i32_w]
                  rfl
                refine pure_ (i := 6) (N := some 23) (v := ?_) (a' := ?_) #[true, true, true, false, true, true, true, false, false, false] rfl rfl (any_of HT_.out (by kernel_rfl)) (fun _ _ _ h => h) (Or.inl ⟨by rfl, ?_⟩) ?_ ?_
                rotate_left
                · intro w'
                  go_simp
                  with_reducible rfl
                rotate_left
                · simp only [Act.put, List.setIfInBounds_toArray, List.set_cons_zero, List.set_cons_succ, i64_w, i32_w]
                  rfl
                refine take_ (i := 3) (N := some 20) (v := ?_) (a' := ?_) #[true, true, true, true, true, true, true, false, false, false] rfl rfl (take_ofW HT_.out HW_.out (by kernel_rfl)) (fun _ _ _ h => h) (Or.inl ⟨by rfl, ?_⟩) hHeld ?_ ?_
                rotate_left
                · rintro w' ⟨s0, s1, s2, s3⟩
                  go_simp
                  with_reducible rfl
                rotate_left
                · simp only [Act.put, List.setIfInBounds_toArray, List.set_cons_zero, List.set_cons_succ, i64_w, i32_w]
                  rfl
                refine take_ (i := 7) (N := some 24) (v := ?_) (a' := ?_) #[true, true, true, true, true, true, true, true, false, false] rfl rfl (take_ofW HT_.out HW_.out (by kernel_rfl)) (fun _ _ _ h => h) (Or.inl ⟨by rfl, ?_⟩) hHeld ?_ ?_
                rotate_left
                · rintro w' ⟨s0, s1, s2, s3⟩
                  go_simp
                  with_reducible rfl
                rotate_left
                · simp only [Act.put, List.setIfInBounds_toArray, List.set_cons_zero, List.set_cons_succ, i64_w, i32_w]
                  rfl
                refine one_ (i := 8) (N := some 25) #[true, true, true, true, true, true, true, true, true, false] rfl rfl (one_of HT_.out (by kernel_rfl)) (by decide) (fun K hK => ?_)
                refine goes_ Tryd.func40 (by kernel_rfl) rfl #[.agg #[.int .i64 ((rd_T41 l0 x5_1).f0), .int .i64 ((rd_T41 l0 x5_1).f1)], .agg #[.int .i64 ((rd_T41 l1 x5_1).f0), .int .i64 ((rd_T41 l1 x5_1).f1)]] (by rfl) rfl rfl (by (try simp only [List.map_toArray, List.map_cons, List.map_nil]); first | done | rfl | (simp only [List.length_drop, List.length_take]; rfl)) ?_
                with_reducible refine (laws_eqCorner.calls ((rd_T41 l0 x5_1).f0) ((rd_T41 l0 x5_1).f1) ((rd_T41 l1 x5_1).f0) ((rd_T41 l1 x5_1).f1) true _ A7.out).mono ?_
                rintro e w10 ⟨rfl, hb⟩
                refine ⟨_, rfl, ?_⟩
                have n0_ := Aside0.mk (below_step (by repeat (first | (with_reducible first | exact HB.out | apply below_alloc | apply pw_below_drewN | apply below_drew1) | exact HB.out)) hb)
                clear HB
                have HB := n0_
                clear n0_
                (try clear hb)
                (try clear hb2)
                (try clear hk)
                (try clear hi)
                refine hK.out _ _ ⟨((HB.out.cell (World.block_lt_of_cell? w _ hw247_0)).trans hw247_0), ((HB.out.cell (World.block_lt_of_cell? w _ hw247_1)).trans hw247_1), ((HB.out.cell (World.block_lt_of_cell? w _ hw248_0)).trans hw248_0), ((HB.out.cell (World.block_lt_of_cell? w _ hw248_1)).trans hw248_1)⟩ (fun hHeld => ?_)
                clear hK K
                refine norm_ (a' := ?_) ?_ ?_
                rotate_left
                · show Act.put _ (some 25) _ = _
                  simp only [Act.put, List.setIfInBounds_toArray, List.set_cons_zero, List.set_cons_succ, i64_w, i32_w]
                  rfl
                refine pure_ (i := 9) (N := some 26) (v := ?_) (a' := ?_) #[true, true, true, true, true, true, true, true, true, true] rfl rfl (any_of HT_.out (by kernel_rfl)) (fun _ _ _ h => h) (Or.inl ⟨by rfl, ?_⟩) ?_ ?_
                rotate_left
                · intro w'
                  go_simp
                  with_reducible rfl
                rotate_left
                · simp only [Act.put, List.setIfInBounds_toArray, List.set_cons_zero, List.set_cons_succ, i64_w, i32_w]
                  rfl
                refine done_ (done_of HT_.out (by kernel_rfl)) ?_
                try go_wp2
                go_roundg k1
                case measure => have := HK1.out; omega
                case rel => exact ⟨(wrap64 (x5_1 + 1)), (by first | rfl | (simp; done) | (simp [*]; done)), H', ⟨by have := HK1.out; omega⟩, ⟨by repeat (first | (with_reducible first | exact HB.out | apply below_alloc | apply pw_below_drewN | apply below_drew1) | exact HB.out)⟩⟩
              · replace c8 := Bool.eq_false_iff.mpr c8
                subst c8
                have H1 : (some false) = some r := by rw [if_neg (show ¬ (false = true) by decide)] at H; exact H
                clear H
                have H := H1
                clear H1
                obtain rfl := Option.some.inj H
                try go_wp2
                have n0_ := Aside0.mk (below_drew1 HB.out)
                clear HB
                have HB := n0_
                clear n0_
                have p247 : 0 ≤ (x5_1 : Int) := of_decide_eq_true (by first | (with_reducible assumption) | assumption)
                have q247 : x5_1 < (l0.length : Int) := of_decide_eq_true (by first | (with_reducible assumption) | assumption)
                obtain ⟨ad247, e247, hx247_0, hx247_1⟩ := at_T41 HR0.out x5_1 p247 q247
                have hw247_1 := hx247_1
                have hw247_0 := hx247_0
                cases e247
                replace hx247_0 := (HB.out.cell (World.block_lt_of_cell? w _ hx247_0)).trans hx247_0
                replace hx247_1 := (HB.out.cell (World.block_lt_of_cell? w _ hx247_1)).trans hx247_1
                replace p247 := eq_true p247
                replace q247 := eq_true q247
                have p248 : 0 ≤ (x5_1 : Int) := of_decide_eq_true (by first | (with_reducible assumption) | assumption)
                have q248 : x5_1 < (l1.length : Int) := of_decide_eq_true (by first | (with_reducible assumption) | assumption)
                obtain ⟨ad248, e248, hx248_0, hx248_1⟩ := at_T41 HR1.out x5_1 p248 q248
                have hw248_1 := hx248_1
                have hw248_0 := hx248_0
                cases e248
                replace hx248_0 := (HB.out.cell (World.block_lt_of_cell? w _ hx248_0)).trans hx248_0
                replace hx248_1 := (HB.out.cell (World.block_lt_of_cell? w _ hx248_1)).trans hx248_1
                replace p248 := eq_true p248
                replace q248 := eq_true q248
                refine start_ (n := 10) (S := fun w' => w'.cell? (ad247.add ((x5_1).toNat * 2)) = some (.int .i64 ((rd_T41 l0 x5_1).f0)) ∧ w'.cell? ⟨(ad247.add ((x5_1).toNat * 2)).block, (ad247.add ((x5_1).toNat * 2)).off + 1, none⟩ = some (.int .i64 ((rd_T41 l0 x5_1).f1)) ∧ w'.cell? (ad248.add ((x5_1).toNat * 2)) = some (.int .i64 ((rd_T41 l1 x5_1).f0)) ∧ w'.cell? ⟨(ad248.add ((x5_1).toNat * 2)).block, (ad248.add ((x5_1).toNat * 2)).off + 1, none⟩ = some (.int .i64 ((rd_T41 l1 x5_1).f1))) (ds := []) #[false, false, false, false, false, false, false, false, false, false] (by kernel_rfl) rfl rfl ⟨((HB.out.cell (World.block_lt_of_cell? w _ hw247_0)).trans hw247_0), ((HB.out.cell (World.block_lt_of_cell? w _ hw247_1)).trans hw247_1), ((HB.out.cell (World.block_lt_of_cell? w _ hw248_0)).trans hw248_0), ((HB.out.cell (World.block_lt_of_cell? w _ hw248_1)).trans hw248_1)⟩ (fun hHeld => ?_); refine with_tabW laws_eqCornerS.tab6 laws_eqCornerS.bits6 (fun HT_ HW_ => ?_)
                generalize wr.drew = w11 at HB hx247_0 hx247_1 hx248_0 hx248_1 hHeld ⊢
                refine pure_ (i := 0) (N := some 17) (v := ?_) (a' := ?_) #[true, false, false, false, false, false, false, false, false, false] rfl rfl (any_of HT_.out (by kernel_rfl)) (fun _ _ _ h => h) (Or.inl ⟨by rfl, ?_⟩) ?_ ?_
                rotate_left
                · intro w'
                  go_simp
                  with_reducible rfl
                rotate_left
                · simp only [Act.put, List.setIfInBounds_toArray, List.set_cons_zero, List.set_cons_succ, i64_w, i32_w]
                  rfl
                refine pure_ (i := 1) (N := some 18) (v := ?_) (a' := ?_) #[true, true, false, false, false, false, false, false, false, false] rfl rfl (any_of HT_.out (by kernel_rfl)) (fun _ _ _ h => h) (Or.inl ⟨by rfl, ?_⟩) ?_ ?_
                rotate_left
                · intro w'
                  go_simp
                  with_reducible rfl
                rotate_left
                · simp only [Act.put, List.setIfInBounds_toArray, List.set_cons_zero, List.set_cons_succ, i64_w, i32_w]
                  rfl
                refine pure_ (i := 2) (N := some 19) (v := ?_) (a' := ?_) #[true, true, true, false, false, false, false, false, false, false] rfl rfl (any_of HT_.out (by kernel_rfl)) (fun _ _ _ h => h) (Or.inl ⟨by rfl, ?_⟩) ?_ ?_
                rotate_left
                · intro w'
                  go_simp
                  with_reducible rfl
                rotate_left
                · simp only [Act.put, List.setIfInBounds_toArray, List.set_cons_zero, List.set_cons_succ, i64_w, i32_w]
                  rfl
                refine pure_ (i := 4) (N := some 21) (v := ?_) (a' := ?_) #[true, true, true, false, true, false, false, false, false, false] rfl rfl (any_of HT_.out (by kernel_rfl)) (fun _ _ _ h => h) (Or.inl ⟨by rfl, ?_⟩) ?_ ?_
                rotate_left
                · intro w'
                  go_simp
                  with_reducible rfl
                rotate_left
                · simp only [Act.put, List.setIfInBounds_toArray, List.set_cons_zero, List.set_cons_succ, i64_w, i32_w]
                  rfl
                refine pure_ (i := 5) (N := some 22) (v := ?_) (a' := ?_) #[true, true, true, false, true, true, false, false, false, false] rfl rfl (any_of HT_.out (by kernel_rfl)) (fun _ _ _ h => h) (Or.inl ⟨by rfl, ?_⟩) ?_ ?_
                rotate_left
                · intro w'
                  go_simp
                  with_reducible rfl
                rotate_left
                · simp only [Act.put, List.setIfInBounds_toArray, List.set_cons_zero, List.set_cons_succ, i64_w, i32_w]
                  rfl
                refine pure_ (i := 6) (N := some 23) (v := ?_) (a' := ?_) #[true, true, true, false, true, true, true, false, false, false] rfl rfl (any_of HT_.out (by kernel_rfl)) (fun _ _ _ h => h) (Or.inl ⟨by rfl, ?_⟩) ?_ ?_
                rotate_left
                · intro w'
                  go_simp
                  with_reducible rfl
                rotate_left
                · simp only [Act.put, List.setIfInBounds_toArray, List.set_cons_zero, List.set_cons_succ, i64_w, i32_w]
                  rfl
                refine take_ (i := 3) (N := some 20) (v := ?_) (a' := ?_) #[true, true, true, true, true, true, true, false, false, false] rfl rfl (take_ofW HT_.out HW_.out (by kernel_rfl)) (fun _ _ _ h => h) (Or.inl ⟨by rfl, ?_⟩) hHeld ?_ ?_
                rotate_left
                · rintro w' ⟨s0, s1, s2, s3⟩
                  go_simp
                  with_reducible rfl
                rotate_left
                · simp only [Act.put, List.setIfInBounds_toArray, List.set_cons_zero, List.set_cons_succ, i64_w, i32_w]
                  rfl
                refine take_ (i := 7) (N := some 24) (v := ?_) (a' := ?_) #[true, true, true, true, true, true, true, true, false, false] rfl rfl (take_ofW HT_.out HW_.out (by kernel_rfl)) (fun _ _ _ h => h) (Or.inl ⟨by rfl, ?_⟩) hHeld ?_ ?_
                rotate_left
                · rintro w' ⟨s0, s1, s2, s3⟩
                  go_simp
                  with_reducible rfl
                rotate_left
                · simp only [Act.put, List.setIfInBounds_toArray, List.set_cons_zero, List.set_cons_succ, i64_w, i32_w]
                  rfl
                refine one_ (i := 8) (N := some 25) #[true, true, true, true, true, true, true, true, true, false] rfl rfl (one_of HT_.out (by kernel_rfl)) (by decide) (fun K hK => ?_)
                refine goes_ Tryd.func40 (by kernel_rfl) rfl #[.agg #[.int .i64 ((rd_T41 l0 x5_1).f0), .int .i64 ((rd_T41 l0 x5_1).f1)], .agg #[.int .i64 ((rd_T41 l1 x5_1).f0), .int .i64 ((rd_T41 l1 x5_1).f1)]] (by rfl) rfl rfl (by (try simp only [List.map_toArray, List.map_cons, List.map_nil]); first | done | rfl | (simp only [List.length_drop, List.length_take]; rfl)) ?_
                with_reducible refine (laws_eqCorner.calls ((rd_T41 l0 x5_1).f0) ((rd_T41 l0 x5_1).f1) ((rd_T41 l1 x5_1).f0) ((rd_T41 l1 x5_1).f1) false _ A7.out).mono ?_
                rintro e w12 ⟨rfl, hb⟩
                refine ⟨_, rfl, ?_⟩
                have n0_ := Aside0.mk (below_step (by repeat (first | (with_reducible first | exact HB.out | apply below_alloc | apply pw_below_drewN | apply below_drew1) | exact HB.out)) hb)
                clear HB
                have HB := n0_
                clear n0_
                (try clear hb)
                (try clear hb2)
                (try clear hk)
                (try clear hi)
                refine hK.out _ _ ⟨((HB.out.cell (World.block_lt_of_cell? w _ hw247_0)).trans hw247_0), ((HB.out.cell (World.block_lt_of_cell? w _ hw247_1)).trans hw247_1), ((HB.out.cell (World.block_lt_of_cell? w _ hw248_0)).trans hw248_0), ((HB.out.cell (World.block_lt_of_cell? w _ hw248_1)).trans hw248_1)⟩ (fun hHeld => ?_)
                clear hK K
                refine norm_ (a' := ?_) ?_ ?_
                rotate_left
                · show Act.put _ (some 25) _ = _
                  simp only [Act.put, List.setIfInBounds_toArray, List.set_cons_zero, List.set_cons_succ, i64_w, i32_w]
                  rfl
                refine pure_ (i := 9) (N := some 26) (v := ?_) (a' := ?_) #[true, true, true, true, true, true, true, true, true, true] rfl rfl (any_of HT_.out (by kernel_rfl)) (fun _ _ _ h => h) (Or.inl ⟨by rfl, ?_⟩) ?_ ?_
                rotate_left
                · intro w'
                  go_simp
                  with_reducible rfl
                rotate_left
                · simp only [Act.put, List.setIfInBounds_toArray, List.set_cons_zero, List.set_cons_succ, i64_w, i32_w]
                  rfl
                refine done_ (done_of HT_.out (by kernel_rfl)) ?_
                try go_wp2
                go_ret
                exact ⟨by first | rfl | (simp [errW_none, errW_some] <;> rfl) | (simp [*, errW_none, errW_some] <;> rfl), by repeat (first | (with_reducible first | exact HB.out | apply below_alloc | apply pw_below_drewN | apply below_drew1) | exact HB.out)⟩
            · rw [if_neg c6] at H
              exact absurd H (by simp)
          · rw [if_neg c5] at H
            exact absurd H (by simp)
        · rw [if_neg c4] at H
          have c4b0 : decide (x5_1 < (l0.length : Int)) = false := decide_eq_false c4
          clear c4
          obtain rfl := Option.some.inj H
          go_wp2
          go_ret
          exact ⟨by first | rfl | (simp [errW_none, errW_some] <;> rfl) | (simp [*, errW_none, errW_some] <;> rfl), by repeat (first | (with_reducible first | exact HB.out | apply below_alloc | apply pw_below_drewN | apply below_drew1) | exact HB.out)⟩
  · rw [if_neg c3] at H
    have c3b0 : ((l0.length : Int) == (l1.length : Int)) = false := beq_eq_false_iff_ne.mpr c3
    have c3b1 : ((l0.length : Int) != (l1.length : Int)) = true := bne_iff_ne.mpr c3
    have c3b2 : (l0.length == l1.length) = false := by first | simpa using c3 | (simp at c3 ⊢; omega)
    obtain rfl := Option.some.inj H
    go_enter Tryd.func22, Tryd.ntmps22
    go_wp2
    go_ret
    exact ⟨by first | rfl | (simp [errW_none, errW_some] <;> rfl) | (simp [*, errW_none, errW_some] <;> rfl), by repeat (first | (with_reducible first | exact HB.out | apply below_alloc | apply pw_below_drewN | apply below_drew1) | exact HB.out)⟩

end Go.Proofs.YtbnkdfmomcmmaaaDoor.P


namespace Go.Proofs.YtbnkdfmomcmmaaaDoor.P
open Go.RowKit Go.Proofs.YtbnkdfmomcmmaaaDoorW.PrintWords Go.Proofs.YtbnkdfmomcmmaaaDoorW.PrintLast Go.Proofs.YtbnkdfmomcmmaaaDoorW.PrintMore
attribute [local go_sem] max2_int min2_int max_two min_two max_three min_three max_four min_four   -- for this text's walks alone
set_option linter.unusedVariables false
set_option linter.unusedSimpArgs false

def laws_markCornerS.l0 : Nat → List (S41) → Int → Int → Option (Int × (List (S41)))
  | 0, _, _, _ => none
  | k + 1, x0, x1, x5 => if x5 < (x0.length : Int) then (if 0 ≤ x5 then ((some (x0.set (x5 : Int).toNat (⟨x1, (rd_T41 x0 x5).f1⟩ : S41) : List (S41))).bind fun y250 => (laws_markCornerS.l0 k (y250.set (x5 : Int).toNat (⟨(rd_T41 y250 x5).f0, wrap64 (x1 + 1)⟩ : S41)) (wrap64 ((wrap64 (x1 + 1)) + 1)) (wrap64 (x5 + 1)))) else (none)) else (some (x1, x0))
def laws_markCornerS.f (k : Nat) (l0 : List (S41)) (a1 : Int) : Option (Int × (List (S41))) := laws_markCornerS.l0 k l0 a1 0
theorem laws_markCornerS.mono_l : ∀ k, (∀ y0 y1 y2, LeO (laws_markCornerS.l0 k y0 y1 y2) (laws_markCornerS.l0 (k + 1) y0 y1 y2))
  | 0 => fun _ _ _ r h => by simp [laws_markCornerS.l0] at h
  | k + 1 => by
    have ih0 := laws_markCornerS.mono_l k
    · intro y0 y1 y2
      unfold laws_markCornerS.l0
      repeat' first
      | (with_reducible exact ih0 _ _ _)
      | (with_reducible exact LeO.refl _)
      | (with_reducible exact LeO.none _)
      | (with_reducible refine LeO.ite ?_ ?_)
      | (with_reducible refine LeO.bind ?_ (fun _ => ?_))
      | exact ih0 _ _ _
      | exact LeO.none _
      | refine LeO.ite ?_ ?_
      | refine LeO.bind ?_ (fun _ => ?_)
theorem laws_markCornerS.mono : ∀ a0 a1 k, LeO (laws_markCornerS.f k a0 a1) (laws_markCornerS.f (k + 1) a0 a1) := by
  intro a0 a1 k
  have ih0 := laws_markCornerS.mono_l k
  unfold laws_markCornerS.f
  repeat' first
      | (with_reducible exact ih0 _ _ _)
      | (with_reducible exact LeO.refl _)
      | (with_reducible exact LeO.none _)
      | (with_reducible refine LeO.ite ?_ ?_)
      | (with_reducible refine LeO.bind ?_ (fun _ => ?_))
      | exact ih0 _ _ _
      | exact LeO.none _
      | refine LeO.ite ?_ ?_
      | refine LeO.bind ?_ (fun _ => ?_)
set_option maxHeartbeats 8000000 in
set_option maxRecDepth 100000 in
theorem laws_markCornerS.calls (k : Nat) (P0_ : Nat → Prop) (u9000_ : Value) (l0 : List (S41)) (a1 : Int) (r1 : Int) (r2 : List (S41)) (w0 w : World) (hB : Below w0.heap.size w0 w) (ho0 : Kd.R k41 41 w w0.heap.size P0_ u9000_ l0) (h : laws_markCornerS.f k l0 a1 = some (r1, r2)) :
    Calls Tryd.prog 23 #[u9000_, .int .i64 a1] w fun e w' => e = .returned (.int .i64 r1) ∧ Kd.R k41 41 w' w0.heap.size (fun k_ => (P0_ k_ ∨ w.heap.size ≤ k_)) u9000_ r2 ∧ Below w0.heap.size w0 w' ∧ Kept w w' (fun k_ => P0_ k_) := by
  have HO0 := Aside0.mk (show Kd.R k41 41 w w0.heap.size (fun k_ => (P0_ k_ ∨ w.heap.size ≤ k_)) u9000_ l0 from Kd.R_mono ho0 (fun k_ hk => (.inl hk)))
  have HK := Aside0.mk (Kept.refl w (fun k_ => P0_ k_))
  have HW0 := Aside0.mk hB.size
  have HB := Aside0.mk hB
  clear hB
  have H : (laws_markCornerS.l0 k l0 a1 0) = some (r1, r2) := h
  clear h
  have H' := Aside0.mk H
  clear H
  go_enter Tryd.func23, Tryd.ntmps23
  go_wp2
  go_loopg [1, 5] k (fun kq v1 v5 w' => ∃ (x0_1 : List (S41)) (x1_1 : Int) (x5_1 : Int), v1 = .int .i64 x1_1 ∧ v5 = .int .i64 x5_1 ∧ Aside0 (laws_markCornerS.l0 kq x0_1 x1_1 x5_1 = some (r1, r2)) ∧ Aside0 (kq ≤ k) ∧ Aside0 (Kd.R k41 41 w' w0.heap.size (fun k_ => (P0_ k_ ∨ w.heap.size ≤ k_)) u9000_ x0_1) ∧ Aside0 (Kept w w' (fun k_ => P0_ k_)) ∧ Aside0 (Below w0.heap.size w0 w'))
  case atStart => exact ⟨(l0), (a1), (0), (by first | rfl | (simp; done) | (simp [*]; done)), (by first | rfl | (simp; done) | (simp [*]; done)), H', ⟨Nat.le_refl _⟩, ⟨by (with_reducible repeat (first | apply Kd.R_alloc | apply Kd.R_drewN | apply Kd.R_drew)); exact HO0.out⟩, ⟨by repeat (first | (with_reducible first | exact HK.out | apply Kept.alloc | apply Kept.drewN | apply Kept.drew) | exact HK.out)⟩, ⟨by repeat (first | (with_reducible first | exact HB.out | apply below_alloc | apply pw_below_drewN | apply below_drew1) | exact HB.out)⟩⟩
  case round =>
    clear H'
    try clear c2
    try clear p2
    obtain ⟨x0_1, x1_1, x5_1, rfl, rfl, HA, HK1, HO_0, HK, HB⟩ := hrel
    cases gk with
    | zero => exact absurd HA.out (by simp [laws_markCornerS.l0])
    | succ k1 =>
      have H := HA.out
      clear HA
      simp only [laws_markCornerS.l0] at H
      by_cases c3 : x5_1 < (x0_1.length : Int)
      · rw [if_pos c3] at H
        have c3b0 : decide (x5_1 < (x0_1.length : Int)) = true := decide_eq_true c3
        clear c3
        by_cases c4 : 0 ≤ x5_1
        · rw [if_pos c4] at H
          have c4b0 : decide (0 ≤ x5_1) = true := decide_eq_true c4
          clear c4
          obtain ⟨y250, hy250⟩ : ∃ y_ : List (S41), y_ = (x0_1.set (x5_1 : Int).toNat (⟨x1_1, (rd_T41 x0_1 x5_1).f1⟩ : S41)) := ⟨_, rfl⟩
          replace H : (laws_markCornerS.l0 k1 (y250.set (x5_1 : Int).toNat (⟨(rd_T41 y250 x5_1).f0, wrap64 (x1_1 + 1)⟩ : S41)) (wrap64 ((wrap64 (x1_1 + 1)) + 1)) (wrap64 (x5_1 + 1))) = some (r1, r2) := by first | (rw [hy250]; with_reducible exact H) | (have H2_ := (Option.bind_some _ _).symm.trans H; rw [hy250]; with_reducible exact H2_) | (have H2_ := (Option.bind_some _ _).symm.trans H; with_reducible exact H2_) | with_reducible exact H | (rw [hy250]; exact H) | exact H
          have Ny250 := Aside0.mk hy250
          clear hy250
          obtain ⟨y251, hy251⟩ : ∃ y_ : List (S41), y_ = (y250.set (x5_1 : Int).toNat (⟨(rd_T41 y250 x5_1).f0, wrap64 (x1_1 + 1)⟩ : S41)) := ⟨_, rfl⟩
          replace H : (laws_markCornerS.l0 k1 y251 (wrap64 ((wrap64 (x1_1 + 1)) + 1)) (wrap64 (x5_1 + 1))) = some (r1, r2) := by first | (rw [hy251]; with_reducible exact H) | (have H2_ := (Option.bind_some _ _).symm.trans H; rw [hy251]; with_reducible exact H2_) | (have H2_ := (Option.bind_some _ _).symm.trans H; with_reducible exact H2_) | with_reducible exact H | (rw [hy251]; exact H) | exact H
          have Ny251 := Aside0.mk hy251
          clear hy251
          have H' := Aside0.mk H
          clear H
          obtain ⟨Ao7, co7, eo7⟩ := Kd.R_slice HO_0.out
          subst eo7
          have p5 : 0 ≤ (x5_1 : Int) := of_decide_eq_true (by first | (with_reducible assumption) | assumption)
          have q5 : (x5_1 : Int) < ((x0_1.length : Int) : Int) := of_decide_eq_true (by first | (with_reducible assumption) | assumption)
          obtain ⟨go5, co5, eo5, gb5, gl5, cl5, HG5⟩ := Kd.R_form HO_0.out (by omega)
          (first | cases eo5 | (injection eo5 with ea_ en_ ec_; (first | subst ea_ | (injection ea_ with ea_; subst ea_)); subst ec_; clear en_))
          have GB5 := Aside0.mk gb5
          have GG5 := Aside0.mk HG5
          clear gb5 gl5 HG5
          have HMgo5 := Aside0.mk (show (P0_ go5 ∨ w.heap.size ≤ go5) from (HO_0.out.1 _ rfl))
          obtain ⟨ce5, hcl5, hM5, hcc5, hfr5⟩ := Kd.R_elem HO_0.out z41 (x5_1 : Int) p5 q5
          obtain rfl := k41_openM hM5
          have hx5_0 : wr.cell? ⟨go5, (x5_1 : Int).toNat * 2, none⟩ = some (.int .i64 ((rd_T41 x0_1 x5_1).f0)) := hcc5 0 _ rfl
          have hx5_1 : wr.cell? ⟨go5, (x5_1 : Int).toNat * 2 + 1, none⟩ = some (.int .i64 ((rd_T41 x0_1 x5_1).f1)) := hcc5 1 _ rfl
          have hf5_0 : wr.frozen? ⟨go5, (x5_1 : Int).toNat * 2, none⟩ = false := hfr5 0
          have hf5_1 : wr.frozen? ⟨go5, (x5_1 : Int).toNat * 2 + 1, none⟩ = false := hfr5 1
          clear hcl5 hcc5 hfr5 hM5
          replace p5 := eq_true p5
          replace q5 := eq_true q5
          have HX8 := Aside0.mk (show Kd.R k41 41 wr w0.heap.size (fun k_ => (P0_ k_ ∨ w.heap.size ≤ k_)) (.slice (some ⟨go5, 0, none⟩) x0_1.length co7) x0_1 from (by (with_reducible repeat (first | apply Kd.R_alloc | apply Kd.R_drewN | apply Kd.R_drew)); exact HO_0.out))
          obtain ⟨ce8, hcl8, hM8, hcc8, hfr8⟩ := Kd.R_elem HX8.out z41 (x5_1 : Int) (of_decide_eq_true (by first | (with_reducible assumption) | assumption)) (by have h_ : (x5_1 : Int) < ((x0_1.length : Int) : Int) := of_decide_eq_true (by first | (with_reducible assumption) | assumption); first | exact h_ | (have e_ := (Kd.R_reads' HO_0.out).1; omega) | simpa using h_)
          obtain rfl := k41_openM hM8
          have HP8 := Kd.R_seg HX8.out (x5_1 : Int) (of_decide_eq_true (by first | (with_reducible assumption) | assumption)) (by have h_ : (x5_1 : Int) < ((x0_1.length : Int) : Int) := of_decide_eq_true (by first | (with_reducible assumption) | assumption); first | exact h_ | (have e_ := (Kd.R_reads' HO_0.out).1; omega) | simpa using h_) (seg := [.int .i64 x1_1]) (j := 0) hcl8 hcc8 (show 1 ≤ 2 from by decide) (x' := (⟨x1_1, (rd_T41 x0_1 x5_1).f1⟩ : S41)) (k41_mkM _ _ _ (⟨x1_1, (rd_T41 x0_1 x5_1).f1⟩ : S41) ) (fun _ hk => hk)
          have hx8_0 := hcc8 0 _ rfl
          (try simp only [show (k41).sz = 2 from rfl, Nat.mul_one, Nat.add_zero] at hx8_0)
          have hf8_0 := hfr8 0
          (try simp only [show (k41).sz = 2 from rfl, Nat.mul_one, Nat.add_zero] at hf8_0)
          clear hcl8 hcc8 hfr8 hM8
          go_wp2_with (first | ((with_reducible refine gate_store (t := 3) (p := 16) rfl ?_); refine store_event (t := 3) (p := 16) (v := ?vo_w9) (w1 := (wr.setCell ⟨go5, (x5_1 : Int).toNat * 2, none⟩ (.int .i64 x1_1))) ?hg ?ho ?hn ?hr ?_; (case ho => rfl); (case hg => rfl); (case hn => rfl); (case hr => first | (go_simp; done) | (go_simp; rfl)); intro w9 hw; have hg : wr.grownBy w9 (some go5) := (by rw [hw]; exact HP8.2); have hp_ : Kd.R k41 41 w9 w0.heap.size (fun k_ => (P0_ k_ ∨ w.heap.size ≤ k_)) (.slice (some ⟨go5, 0, none⟩) x0_1.length co7) y250 := (by rw [hw, Ny250.out]; exact HP8.1); clear HP8; have n0_ := Aside0.mk (hp_); have n1_ := Aside0.mk ((by rw [hw]; exact below_set (HB.out) GB5.out : Below w0.heap.size w0 w9)); have n2_ := Aside0.mk (Kept.of_grown (S := (fun k_ => P0_ k_)) hg (by repeat (first | (with_reducible first | exact HK.out | apply Kept.alloc | apply Kept.drewN | apply Kept.drew) | exact HK.out)) (fun k_ e_ => (HO_0.out.1 k_ e_))); clear HO_0; clear HB; clear HK; have HO_0 := n0_; have HB := n1_; have HK := n2_; clear n0_ n1_ n2_; clear hg hw hp_; have p6 : 0 ≤ (x5_1 : Int) := of_decide_eq_true (by first | (with_reducible assumption) | assumption); have q6 : (x5_1 : Int) < ((x0_1.length : Int) : Int) := of_decide_eq_true (by first | (with_reducible assumption) | assumption); obtain ⟨ce6, hcl6, hM6, hcc6, hfr6⟩ := Kd.R_elem HO_0.out z41 (x5_1 : Int) p6 q6; obtain rfl := k41_openM hM6; have hx6_0 : w9.cell? ⟨go5, (x5_1 : Int).toNat * 2, none⟩ = some (.int .i64 ((rd_T41 y250 x5_1).f0)) := hcc6 0 _ rfl; have hx6_1 : w9.cell? ⟨go5, (x5_1 : Int).toNat * 2 + 1, none⟩ = some (.int .i64 ((rd_T41 y250 x5_1).f1)) := hcc6 1 _ rfl; have hf6_0 : w9.frozen? ⟨go5, (x5_1 : Int).toNat * 2, none⟩ = false := hfr6 0; have hf6_1 : w9.frozen? ⟨go5, (x5_1 : Int).toNat * 2 + 1, none⟩ = false := hfr6 1; clear hcl6 hcc6 hfr6 hM6; replace p6 := eq_true p6; replace q6 := eq_true q6; have HX10 := Aside0.mk (show Kd.R k41 41 w9 w0.heap.size (fun k_ => (P0_ k_ ∨ w.heap.size ≤ k_)) (.slice (some ⟨go5, 0, none⟩) x0_1.length co7) y250 from (by (with_reducible repeat (first | apply Kd.R_alloc | apply Kd.R_drewN | apply Kd.R_drew)); exact HO_0.out)); obtain ⟨ce10, hcl10, hM10, hcc10, hfr10⟩ := Kd.R_elem HX10.out z41 (x5_1 : Int) (of_decide_eq_true (by first | (with_reducible assumption) | assumption)) (by have h_ : (x5_1 : Int) < ((x0_1.length : Int) : Int) := of_decide_eq_true (by first | (with_reducible assumption) | assumption); first | exact h_ | (have e_ := (Kd.R_reads' HO_0.out).1; omega) | simpa using h_); obtain rfl := k41_openM hM10; have HP10 := Kd.R_seg HX10.out (x5_1 : Int) (of_decide_eq_true (by first | (with_reducible assumption) | assumption)) (by have h_ : (x5_1 : Int) < ((x0_1.length : Int) : Int) := of_decide_eq_true (by first | (with_reducible assumption) | assumption); first | exact h_ | (have e_ := (Kd.R_reads' HO_0.out).1; omega) | simpa using h_) (seg := [.int .i64 (wrap64 (x1_1 + 1))]) (j := 1) hcl10 hcc10 (show 2 ≤ 2 from by decide) (x' := (⟨(rd_T41 y250 x5_1).f0, wrap64 (x1_1 + 1)⟩ : S41)) (k41_mkM _ _ _ (⟨(rd_T41 y250 x5_1).f0, wrap64 (x1_1 + 1)⟩ : S41) ) (fun _ hk => hk); have hx10_1 := hcc10 1 _ rfl; (try simp only [show (k41).sz = 2 from rfl, Nat.mul_one, Nat.add_zero] at hx10_1); have hf10_1 := hfr10 1; (try simp only [show (k41).sz = 2 from rfl, Nat.mul_one, Nat.add_zero] at hf10_1); clear hcl10 hcc10 hfr10 hM10) | ((with_reducible refine gate_store (t := 3) (p := 23) rfl ?_); refine store_event (t := 3) (p := 23) (v := ?vo_w11) (w1 := (w9.setCell ⟨go5, (x5_1 : Int).toNat * 2 + 1, none⟩ (.int .i64 (wrap64 (x1_1 + 1))))) ?hg ?ho ?hn ?hr ?_; (case ho => rfl); (case hg => rfl); (case hn => rfl); (case hr => first | (go_simp; done) | (go_simp; rfl)); intro w11 hw; have hg : w9.grownBy w11 (some go5) := (by rw [hw]; exact HP10.2); have hp_ : Kd.R k41 41 w11 w0.heap.size (fun k_ => (P0_ k_ ∨ w.heap.size ≤ k_)) (.slice (some ⟨go5, 0, none⟩) x0_1.length co7) y251 := (by rw [hw, Ny251.out]; exact HP10.1); clear HP10; have n0_ := Aside0.mk (hp_); have n1_ := Aside0.mk ((by rw [hw]; exact below_set (HB.out) GB5.out : Below w0.heap.size w0 w11)); have n2_ := Aside0.mk (Kept.of_grown (S := (fun k_ => P0_ k_)) hg (by repeat (first | (with_reducible first | exact HK.out | apply Kept.alloc | apply Kept.drewN | apply Kept.drew) | exact HK.out)) (fun k_ e_ => (HO_0.out.1 k_ e_))); clear HO_0; clear HB; clear HK; have HO_0 := n0_; have HB := n1_; have HK := n2_; clear n0_ n1_ n2_; clear hg hw hp_))
          go_roundg k1
          case measure => have := HK1.out; omega
          case rel => exact ⟨(y251), (wrap64 ((wrap64 (x1_1 + 1)) + 1)), (wrap64 (x5_1 + 1)), (by first | rfl | (simp; done) | (simp [*]; done)), (by first | rfl | (simp; done) | (simp [*]; done)), H', ⟨by have := HK1.out; omega⟩, ⟨by (with_reducible repeat (first | apply Kd.R_alloc | apply Kd.R_drewN | apply Kd.R_drew)); exact HO_0.out⟩, ⟨by repeat (first | (with_reducible first | exact HK.out | apply Kept.alloc | apply Kept.drewN | apply Kept.drew) | exact HK.out)⟩, ⟨by repeat (first | (with_reducible first | exact HB.out | apply below_alloc | apply pw_below_drewN | apply below_drew1) | exact HB.out)⟩⟩
        · rw [if_neg c4] at H
          exact absurd H (by simp)
      · rw [if_neg c3] at H
        have c3b0 : decide (x5_1 < (x0_1.length : Int)) = false := decide_eq_false c3
        clear c3
        simp only [Option.some.injEq, Prod.mk.injEq] at H
        obtain ⟨rfl, rfl⟩ := H
        obtain ⟨Ao12, co12, eo12⟩ := Kd.R_slice HO_0.out
        subst eo12
        go_wp2
        go_ret
        exact ⟨by first | rfl | (simp [errW_none, errW_some] <;> rfl) | (simp [*, errW_none, errW_some] <;> rfl), by (with_reducible repeat (first | apply Kd.R_alloc | apply Kd.R_drewN | apply Kd.R_drew)); exact HO_0.out, by repeat (first | (with_reducible first | exact HB.out | apply below_alloc | apply pw_below_drewN | apply below_drew1) | exact HB.out), by repeat (first | (with_reducible first | exact HK.out | apply Kept.alloc | apply Kept.drewN | apply Kept.drew) | exact HK.out)⟩

end Go.Proofs.YtbnkdfmomcmmaaaDoor.P


namespace Go.Proofs.YtbnkdfmomcmmaaaDoor.P
open Go.RowKit Go.Proofs.YtbnkdfmomcmmaaaDoorW.PrintWords Go.Proofs.YtbnkdfmomcmmaaaDoorW.PrintLast Go.Proofs.YtbnkdfmomcmmaaaDoorW.PrintMore
attribute [local go_sem] max2_int min2_int max_two min_two max_three min_three max_four min_four   -- for this text's walks alone
set_option linter.unusedVariables false
set_option linter.unusedSimpArgs false

def laws_heldCornerS.l0 : Nat → List (S41) → Int → Int → Option (Int)
  | 0, _, _, _ => none
  | k + 1, x0, x1, x5 => if x5 < (x0.length : Int) then (if 0 ≤ x5 then (if ((rd_T41 x0 x5).f0) = x1 then (if ((rd_T41 x0 x5).f1) = (wrap64 (x1 + 1)) then (laws_heldCornerS.l0 k x0 (wrap64 ((wrap64 (x1 + 1)) + 1)) (wrap64 (x5 + 1))) else (some (-1))) else (some (-1))) else (none)) else (some x1)
def laws_heldCornerS.f (k : Nat) (l0 : List (S41)) (a1 : Int) : Option (Int) := laws_heldCornerS.l0 k l0 a1 0
theorem laws_heldCornerS.mono_l : ∀ k, (∀ y0 y1 y2, LeO (laws_heldCornerS.l0 k y0 y1 y2) (laws_heldCornerS.l0 (k + 1) y0 y1 y2))
  | 0 => fun _ _ _ r h => by simp [laws_heldCornerS.l0] at h
  | k + 1 => by
    have ih0 := laws_heldCornerS.mono_l k
    · intro y0 y1 y2
      unfold laws_heldCornerS.l0
      repeat' first
      | (with_reducible exact ih0 _ _ _)
      | (with_reducible exact LeO.refl _)
      | (with_reducible exact LeO.none _)
      | (with_reducible refine LeO.ite ?_ ?_)
      | (with_reducible refine LeO.bind ?_ (fun _ => ?_))
      | exact ih0 _ _ _
      | exact LeO.none _
      | refine LeO.ite ?_ ?_
      | refine LeO.bind ?_ (fun _ => ?_)
theorem laws_heldCornerS.mono : ∀ a0 a1 k, LeO (laws_heldCornerS.f k a0 a1) (laws_heldCornerS.f (k + 1) a0 a1) := by
  intro a0 a1 k
  have ih0 := laws_heldCornerS.mono_l k
  unfold laws_heldCornerS.f
  repeat' first
      | (with_reducible exact ih0 _ _ _)
      | (with_reducible exact LeO.refl _)
      | (with_reducible exact LeO.none _)
      | (with_reducible refine LeO.ite ?_ ?_)
      | (with_reducible refine LeO.bind ?_ (fun _ => ?_))
      | exact ih0 _ _ _
      | exact LeO.none _
      | refine LeO.ite ?_ ?_
      | refine LeO.bind ?_ (fun _ => ?_)
set_option maxHeartbeats 8000000 in
set_option maxRecDepth 100000 in
theorem laws_heldCornerS.calls (k : Nat) (A0 : Option Addr) (c0 : Nat) (l0 : List (S41)) (a1 : Int) (r : Int) (w : World) (hr0 : Kd.C k41 w A0 l0.length l0) (hc0 : l0.length ≤ c0) (h : laws_heldCornerS.f k l0 a1 = some r) :
    Calls Tryd.prog 24 #[.slice A0 l0.length c0, .int .i64 a1] w fun e w' => e = .returned (.int .i64 r) ∧ Drawn0 w w' := by
  have HR0 := Aside0.mk hr0
  have HC0 := Aside0.mk hc0
  clear hr0 hc0
  have H : (laws_heldCornerS.l0 k l0 a1 0) = some r := h
  clear h
  have H' := Aside0.mk H
  clear H
  go_enter Tryd.func24, Tryd.ntmps24
  go_wp2
  go_loopg [1, 5] k (fun kq v1 v5 w' => ∃ (x1_1 : Int) (x5_1 : Int), v1 = .int .i64 x1_1 ∧ v5 = .int .i64 x5_1 ∧ Aside0 (laws_heldCornerS.l0 kq l0 x1_1 x5_1 = some r) ∧ Aside0 (kq ≤ k) ∧ Drawn0 w w')
  case atStart => exact ⟨(a1), (0), (by first | rfl | (simp; done) | (simp [*]; done)), (by first | rfl | (simp; done) | (simp [*]; done)), H', ⟨Nat.le_refl _⟩, by repeat (first | exact Drawn0.refl _ | apply Drawn0.step)⟩
  case round =>
    clear H'
    try clear c2
    try clear p2
    obtain ⟨x1_1, x5_1, rfl, rfl, HA, HK1, ⟨m1, rfl⟩⟩ := hrel
    cases gk with
    | zero => exact absurd HA.out (by simp [laws_heldCornerS.l0])
    | succ k1 =>
      have H := HA.out
      clear HA
      simp only [laws_heldCornerS.l0] at H
      by_cases c3 : x5_1 < (l0.length : Int)
      · rw [if_pos c3] at H
        have c3b0 : decide (x5_1 < (l0.length : Int)) = true := decide_eq_true c3
        clear c3
        by_cases c4 : 0 ≤ x5_1
        · rw [if_pos c4] at H
          have c4b0 : decide (0 ≤ x5_1) = true := decide_eq_true c4
          clear c4
          by_cases c5 : ((rd_T41 l0 x5_1).f0) = x1_1
          · rw [if_pos c5] at H
            have c5b0 : (((rd_T41 l0 x5_1).f0) == x1_1) = true := beq_iff_eq.mpr c5
            have c5b1 : (((rd_T41 l0 x5_1).f0) != x1_1) = false := bne_eq_false_iff_eq.mpr c5
            clear c5
            by_cases c6 : ((rd_T41 l0 x5_1).f1) = (wrap64 (x1_1 + 1))
            · rw [if_pos c6] at H
              have c6b0 : (((rd_T41 l0 x5_1).f1) == (wrap64 (x1_1 + 1))) = true := beq_iff_eq.mpr c6
              have c6b1 : (((rd_T41 l0 x5_1).f1) != (wrap64 (x1_1 + 1))) = false := bne_eq_false_iff_eq.mpr c6
              clear c6
              have H' := Aside0.mk H
              clear H
              have p252 : 0 ≤ (x5_1 : Int) := of_decide_eq_true (by first | (with_reducible assumption) | assumption)
              have q252 : x5_1 < (l0.length : Int) := of_decide_eq_true (by first | (with_reducible assumption) | assumption)
              obtain ⟨ad252, e252, hx252_0, hx252_1⟩ := at_T41 HR0.out x5_1 p252 q252
              cases e252
              replace p252 := eq_true p252
              replace q252 := eq_true q252
              have p253 : 0 ≤ (x5_1 : Int) := of_decide_eq_true (by first | (with_reducible assumption) | assumption)
              have q253 : x5_1 < (l0.length : Int) := of_decide_eq_true (by first | (with_reducible assumption) | assumption)
              obtain ⟨ad253, e253, hx253_0, hx253_1⟩ := at_T41 HR0.out x5_1 p253 q253
              obtain rfl : ad252 = ad253 := (by injection e253)
              replace p253 := eq_true p253
              replace q253 := eq_true q253
              go_wp2
              go_roundg k1
              case measure => have := HK1.out; omega
              case rel => exact ⟨(wrap64 ((wrap64 (x1_1 + 1)) + 1)), (wrap64 (x5_1 + 1)), (by first | rfl | (simp; done) | (simp [*]; done)), (by first | rfl | (simp; done) | (simp [*]; done)), H', ⟨by have := HK1.out; omega⟩, by repeat (first | exact Drawn0.refl _ | apply Drawn0.step)⟩
            · rw [if_neg c6] at H
              have c6b0 : (((rd_T41 l0 x5_1).f1) == (wrap64 (x1_1 + 1))) = false := beq_eq_false_iff_ne.mpr c6
              have c6b1 : (((rd_T41 l0 x5_1).f1) != (wrap64 (x1_1 + 1))) = true := bne_iff_ne.mpr c6
              obtain rfl := Option.some.inj H
              have p252 : 0 ≤ (x5_1 : Int) := of_decide_eq_true (by first | (with_reducible assumption) | assumption)
              have q252 : x5_1 < (l0.length : Int) := of_decide_eq_true (by first | (with_reducible assumption) | assumption)
              obtain ⟨ad252, e252, hx252_0, hx252_1⟩ := at_T41 HR0.out x5_1 p252 q252
              cases e252
              replace p252 := eq_true p252
              replace q252 := eq_true q252
              have p253 : 0 ≤ (x5_1 : Int) := of_decide_eq_true (by first | (with_reducible assumption) | assumption)
              have q253 : x5_1 < (l0.length : Int) := of_decide_eq_true (by first | (with_reducible assumption) | assumption)
              obtain ⟨ad253, e253, hx253_0, hx253_1⟩ := at_T41 HR0.out x5_1 p253 q253
              obtain rfl : ad252 = ad253 := (by injection e253)
              replace p253 := eq_true p253
              replace q253 := eq_true q253
              go_wp2
              go_ret
              exact ⟨by first | rfl | (simp; done) | (simp [*]; done), by repeat (first | exact Drawn0.refl _ | apply Drawn0.step)⟩
          · rw [if_neg c5] at H
            have c5b0 : (((rd_T41 l0 x5_1).f0) == x1_1) = false := beq_eq_false_iff_ne.mpr c5
            have c5b1 : (((rd_T41 l0 x5_1).f0) != x1_1) = true := bne_iff_ne.mpr c5
            obtain rfl := Option.some.inj H
            have p252 : 0 ≤ (x5_1 : Int) := of_decide_eq_true (by first | (with_reducible assumption) | assumption)
            have q252 : x5_1 < (l0.length : Int) := of_decide_eq_true (by first | (with_reducible assumption) | assumption)
            obtain ⟨ad252, e252, hx252_0, hx252_1⟩ := at_T41 HR0.out x5_1 p252 q252
            cases e252
            replace p252 := eq_true p252
            replace q252 := eq_true q252
            go_wp2
            go_ret
            exact ⟨by first | rfl | (simp; done) | (simp [*]; done), by repeat (first | exact Drawn0.refl _ | apply Drawn0.step)⟩
        · rw [if_neg c4] at H
          exact absurd H (by simp)
      · rw [if_neg c3] at H
        have c3b0 : decide (x5_1 < (l0.length : Int)) = false := decide_eq_false c3
        clear c3
        obtain rfl := Option.some.inj H
        go_wp2
        go_ret
        exact ⟨by first | rfl | (simp; done) | (simp [*]; done), by repeat (first | exact Drawn0.refl _ | apply Drawn0.step)⟩

end Go.Proofs.YtbnkdfmomcmmaaaDoor.P

