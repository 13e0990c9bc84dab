/- For every input the law FnExactGreedyTake answers true: the program's GreedyTake tells what the reference's GreedyTake tells; no condition. (part 5 of the proof; the words of the kit's print tool and the texts of this seat, merged by a program) -/
import Derived.Below
import Derived.ChangeOld
import Derived.FnData
import Derived.Handed
import Derived.JoinedOf
import Derived.LaidHandle
import Derived.LaidLaws
import Derived.Lib.SmallJoins
import Derived.OpenShut
import Derived.ProofKit
import Derived.SevenTiedAt
import Derived.SizedLaws
import Derived.Test.YtjnajeplfgdklaaDoorCards
import Derived.Test.YtjnajeplfgdklaaDoorClosed
import Derived.Test.YtjnajeplfgdklaaDoorRows
import Derived.Test.YtjnajeplfgdklaaDoorTie
import Derived.WalkKit
import Derived.Test.YtjnajeplfgdklaaDoorMGREE4
namespace Go.Proofs.YtjnajeplfgdklaaDoor.P
open Go.RowKit Go.Proofs.YtjnajeplfgdklaaDoorW.PrintWords Go.Proofs.YtjnajeplfgdklaaDoorW.PrintLast Go.Proofs.YtjnajeplfgdklaaDoorW.PrintMore
attribute [local go_sem] max2_int min2_int max_two min_two max_three min_three max_four min_four   -- for this text's walks alone
set_option linter.unusedVariables false
set_option linter.unusedSimpArgs false

def impl_NeedlessMatches.f (k : Nat) (a0_0 : Int) (a0_1 : Int) (l0_2 : List Int) (l0_3 : List Int) : Option (Int × Int × List Int × List Int × Bool) := (impl_IsFigure.f k a0_0 a0_1 l0_2 l0_3).bind fun t701 => (if t701 = true then ((impl_Figure_grid.f a0_0 a0_1 l0_2 l0_3).bind fun bt702 => ((impl_Figure_grid.f a0_0 a0_1 l0_2 l0_3).bind fun bt704 => ((impl_grid_squares.f k bt704.1 bt704.2).bind fun t706 => ((impl_Figure_set.f k a0_0 a0_1 l0_2 l0_3).bind fun t709 => ((impl_needless.f k t706 t709).bind fun t710 => ((impl_grid_figure.f bt702.1 bt702.2 t710).bind fun bt711 => (some (bt711.1, bt711.2.1, bt711.2.2.1, bt711.2.2.2, true)))))))) else (some (0, 0, ([] : List Int), ([] : List Int), false)))
theorem impl_NeedlessMatches.mono : ∀ a0 a1 a2 a3 k, LeO (impl_NeedlessMatches.f k a0 a1 a2 a3) (impl_NeedlessMatches.f (k + 1) a0 a1 a2 a3) := by
  intro a0 a1 a2 a3 k
  unfold impl_NeedlessMatches.f
  repeat' first
      | (with_reducible exact impl_Figure_set.mono _ _ _ _ _)
      | (with_reducible exact impl_IsFigure.mono _ _ _ _ _)
      | (with_reducible exact impl_grid_squares.mono _ _ _)
      | (with_reducible exact impl_needless.mono _ _ _)
      | (with_reducible exact LeO.refl _)
      | (with_reducible exact LeO.none _)
      | (with_reducible refine LeO.ite ?_ ?_)
      | (with_reducible refine LeO.bind ?_ (fun _ => ?_))
      | exact impl_Figure_set.mono _ _ _ _ _
      | exact impl_IsFigure.mono _ _ _ _ _
      | exact impl_grid_squares.mono _ _ _
      | exact impl_needless.mono _ _ _
      | exact LeO.none _
      | refine LeO.ite ?_ ?_
      | refine LeO.bind ?_ (fun _ => ?_)
def impl_NeedlessMatches.T3 : Bool × List (List Nat × List Nat) := (true, [([], []), ([0], [0]), ([], []), ([2, 1], [2]), ([3, 3], [3]), ([], []), ([5, 4], [5]), ([4, 6, 6], [4, 6]), ([1, 7, 7], [1, 7]), ([8, 8, 0, 1, 2, 3, 4, 5, 6, 7, 8], [8]), ([9, 0, 1, 2, 3, 4, 5, 6, 7, 8, 9], [])])
def impl_NeedlessMatches.B3 : List Nat := [0, 1, 0, 7, 15, 0, 63, 127, 255, 511, 1023]
theorem impl_NeedlessMatches.tab3 : rtab .any (opsOf Tryd.f25 3) = impl_NeedlessMatches.T3 := by kernel_rfl
theorem impl_NeedlessMatches.bits3 : waitsOk impl_NeedlessMatches.T3.2 impl_NeedlessMatches.B3 = true := by kernel_rfl
set_option maxHeartbeats 8000000 in
set_option maxRecDepth 100000 in
theorem impl_NeedlessMatches.calls (k : Nat) (a0_0 : Int) (a0_1 : Int) (A0_2 : Option Addr) (c0_2 : Nat) (l0_2 : List Int) (A0_3 : Option Addr) (c0_3 : Nat) (l0_3 : List Int) (r1 : Int) (r2 : Int) (r3 : List Int) (r4 : List Int) (r5 : Bool) (w : World) (hr0_2 : Kd.C (Kd.int .i64) w A0_2 l0_2.length l0_2) (hc0_2 : l0_2.length ≤ c0_2) (hr0_3 : Kd.C (Kd.int .i64) w A0_3 l0_3.length l0_3) (hc0_3 : l0_3.length ≤ c0_3) (hT_ : TB w) (h : impl_NeedlessMatches.f k a0_0 a0_1 l0_2 l0_3 = some (r1, r2, r3, r4, r5)) :
    Calls Tryd.prog 25 #[.agg #[.int .i64 a0_0, .int .i64 a0_1, .slice A0_2 l0_2.length c0_2, .slice A0_3 l0_3.length c0_3]] w fun e w' => ∃ v2_ v3_ : Value, e = .returned (.tuple #[.agg #[.int .i64 r1, .int .i64 r2, v2_, v3_], .bool r5]) ∧ Kd.R (Kd.int .i64) 3 w' w.heap.size (fun k_ => some k_ ≠ (v3_ : Value).ownBlock) v2_ r3 ∧ Kd.R (Kd.int .i64) 3 w' w.heap.size (fun k_ => some k_ ≠ (v2_ : Value).ownBlock) v3_ r4 ∧ Below w.heap.size w w' := by
  have hu26 := Tryd.underlying26
  have HR0_2 := Aside0.mk hr0_2
  have HC0_2 := Aside0.mk hc0_2
  clear hr0_2 hc0_2
  have HR0_3 := Aside0.mk hr0_3
  have HC0_3 := Aside0.mk hc0_3
  clear hr0_3 hc0_3
  have HB := Aside0.mk (Below.refl w.heap.size w)
  have HTB := Aside0.mk hT_
  clear hT_
  have H : ((impl_IsFigure.f k a0_0 a0_1 l0_2 l0_3).bind fun t701 => (if t701 = true then ((impl_Figure_grid.f a0_0 a0_1 l0_2 l0_3).bind fun bt702 => ((impl_Figure_grid.f a0_0 a0_1 l0_2 l0_3).bind fun bt704 => ((impl_grid_squares.f k bt704.1 bt704.2).bind fun t706 => ((impl_Figure_set.f k a0_0 a0_1 l0_2 l0_3).bind fun t709 => ((impl_needless.f k t706 t709).bind fun t710 => ((impl_grid_figure.f bt702.1 bt702.2 t710).bind fun bt711 => (some (bt711.1, bt711.2.1, bt711.2.2.1, bt711.2.2.2, true)))))))) else (some (0, 0, ([] : List Int), ([] : List Int), false)))) = some (r1, r2, r3, r4, r5) := h
  clear h
  replace H := Option.bind_eq_some_iff.mp H
  obtain ⟨t701, A20, H⟩ := H
  replace H : (if t701 = true then ((impl_Figure_grid.f a0_0 a0_1 l0_2 l0_3).bind fun bt702 => ((impl_Figure_grid.f a0_0 a0_1 l0_2 l0_3).bind fun bt704 => ((impl_grid_squares.f k bt704.1 bt704.2).bind fun t706 => ((impl_Figure_set.f k a0_0 a0_1 l0_2 l0_3).bind fun t709 => ((impl_needless.f k t706 t709).bind fun t710 => ((impl_grid_figure.f bt702.1 bt702.2 t710).bind fun bt711 => (some (bt711.1, bt711.2.1, bt711.2.2.1, bt711.2.2.2, true)))))))) else (some (0, 0, ([] : List Int), ([] : List Int), false))) = some (r1, r2, r3, r4, r5) := H
  have A2 := Aside0.mk A20
  clear A20
  by_cases c3 : t701 = true
  · subst c3
    have H1 : ((impl_Figure_grid.f a0_0 a0_1 l0_2 l0_3).bind fun bt702 => ((impl_Figure_grid.f a0_0 a0_1 l0_2 l0_3).bind fun bt704 => ((impl_grid_squares.f k bt704.1 bt704.2).bind fun t706 => ((impl_Figure_set.f k a0_0 a0_1 l0_2 l0_3).bind fun t709 => ((impl_needless.f k t706 t709).bind fun t710 => ((impl_grid_figure.f bt702.1 bt702.2 t710).bind fun bt711 => (some (bt711.1, bt711.2.1, bt711.2.2.1, bt711.2.2.2, true)))))))) = some (r1, r2, r3, r4, r5) := by rw [if_pos rfl] at H; exact H
    clear H
    have H := H1
    clear H1
    replace H := Option.bind_eq_some_iff.mp H
    obtain ⟨⟨t702, t703⟩, A40, H⟩ := H
    replace H : ((impl_Figure_grid.f a0_0 a0_1 l0_2 l0_3).bind fun bt704 => ((impl_grid_squares.f k bt704.1 bt704.2).bind fun t706 => ((impl_Figure_set.f k a0_0 a0_1 l0_2 l0_3).bind fun t709 => ((impl_needless.f k t706 t709).bind fun t710 => ((impl_grid_figure.f t702 t703 t710).bind fun bt711 => (some (bt711.1, bt711.2.1, bt711.2.2.1, bt711.2.2.2, true))))))) = some (r1, r2, r3, r4, r5) := H
    have A4 := Aside0.mk A40
    clear A40
    replace H := Option.bind_eq_some_iff.mp H
    obtain ⟨⟨t704, t705⟩, A50, H⟩ := H
    replace H : ((impl_grid_squares.f k t704 t705).bind fun t706 => ((impl_Figure_set.f k a0_0 a0_1 l0_2 l0_3).bind fun t709 => ((impl_needless.f k t706 t709).bind fun t710 => ((impl_grid_figure.f t702 t703 t710).bind fun bt711 => (some (bt711.1, bt711.2.1, bt711.2.2.1, bt711.2.2.2, true)))))) = some (r1, r2, r3, r4, r5) := H
    have A5 := Aside0.mk A50
    clear A50
    replace H := Option.bind_eq_some_iff.mp H
    obtain ⟨t706, A60, H⟩ := H
    replace H : ((impl_Figure_set.f k a0_0 a0_1 l0_2 l0_3).bind fun t709 => ((impl_needless.f k t706 t709).bind fun t710 => ((impl_grid_figure.f t702 t703 t710).bind fun bt711 => (some (bt711.1, bt711.2.1, bt711.2.2.1, bt711.2.2.2, true))))) = some (r1, r2, r3, r4, r5) := H
    have A6 := Aside0.mk A60
    clear A60
    replace H := Option.bind_eq_some_iff.mp H
    obtain ⟨t709, A70, H⟩ := H
    replace H : ((impl_needless.f k t706 t709).bind fun t710 => ((impl_grid_figure.f t702 t703 t710).bind fun bt711 => (some (bt711.1, bt711.2.1, bt711.2.2.1, bt711.2.2.2, true)))) = some (r1, r2, r3, r4, r5) := H
    have A7 := Aside0.mk A70
    clear A70
    replace H := Option.bind_eq_some_iff.mp H
    obtain ⟨t710, A80, H⟩ := H
    replace H : ((impl_grid_figure.f t702 t703 t710).bind fun bt711 => (some (bt711.1, bt711.2.1, bt711.2.2.1, bt711.2.2.2, true))) = some (r1, r2, r3, r4, r5) := H
    have A8 := Aside0.mk A80
    clear A80
    replace H := Option.bind_eq_some_iff.mp H
    obtain ⟨⟨t711, t712, t713, t716⟩, A90, H⟩ := H
    replace H : (some (t711, t712, t713, t716, true)) = some (r1, r2, r3, r4, r5) := H
    have A9 := Aside0.mk A90
    clear A90
    simp only [Option.some.injEq, Prod.mk.injEq] at H
    obtain ⟨rfl, rfl, rfl, rfl, rfl⟩ := H
    go_enter Tryd.func25, Tryd.ntmps25
    try go_wp2_with (first | ((with_reducible refine gate_dst (N := 1) rfl ?_); refine box_event ?hg (N := 1) ?hd (cs := #[.int .i64 a0_0, .int .i64 a0_1, .slice A0_2 l0_2.length c0_2, .slice A0_3 l0_3.length c0_3]) (t := 26) ?hr ?_; (case hd => rfl); (case hg => rfl); (case hr => first | (go_simp; done) | (go_simp; rfl)); intro gb699 hg w10 hbox hb; have n0_ := Aside0.mk (below_step (by repeat (first | (with_reducible first | exact HB.out | apply below_alloc | apply pw_below_drewN | apply below_drew1) | exact HB.out)) hb); have n1_ := Aside0.mk (hbox); have n2_ := Aside0.mk ((by rw [hg]; exact (below_size (by repeat (first | (with_reducible first | exact HB.out | apply below_alloc | apply pw_below_drewN | apply below_drew1) | exact HB.out))) : w.heap.size ≤ gb699)); have n3_ := Aside0.mk ((by rw [hg]; exact (below_size (by repeat (first | (with_reducible first | exact HB.out | apply below_alloc | apply pw_below_drewN | apply below_drew1) | exact HB.out))) : w.heap.size ≤ gb699)); clear HB; have HB := n0_; have BK699 := n1_; have GW699 := n2_; have GE699 := n3_; clear n0_ n1_ n2_ n3_; clear hb hbox hg) | ((with_reducible refine gate_dst (N := 2) rfl ?_); refine box_event ?hg (N := 2) ?hd (cs := #[.int .i64 0, .int .i64 0, .slice none 0 0, .slice none 0 0]) (t := 26) ?hr ?_; (case hd => rfl); (case hg => rfl); (case hr => first | (go_simp; done) | (go_simp; rfl)); intro gb700 hg w11 hbox hb; have n0_ := Aside0.mk (blk_below (g := gb699) (o := .cells #[.int .i64 a0_0, .int .i64 a0_1, .slice A0_2 l0_2.length c0_2, .slice A0_3 l0_3.length c0_3] 26 (0, 0)) (by (with_reducible repeat (first | refine blk_drewN ?_ _ | refine blk_drew ?_ | refine blk_alloc ?_ _)); exact BK699.out) hb); have n1_ := Aside0.mk (below_step (by repeat (first | (with_reducible first | exact HB.out | apply below_alloc | apply pw_below_drewN | apply below_drew1 | refine below_set ?_ GE699.out) | exact HB.out)) hb); have n2_ := Aside0.mk (hbox); have n3_ := Aside0.mk ((by rw [hg]; exact (below_size (by repeat (first | (with_reducible first | exact HB.out | apply below_alloc | apply pw_below_drewN | apply below_drew1 | refine below_set ?_ GE699.out) | exact HB.out))) : w.heap.size ≤ gb700)); have n4_ := Aside0.mk ((by rw [hg]; exact (below_size (by repeat (first | (with_reducible first | exact HB.out | apply below_alloc | apply pw_below_drewN | apply below_drew1 | refine below_set ?_ GE699.out) | exact HB.out))) : w.heap.size ≤ gb700)); have n5_ := Aside0.mk ((by rw [hg]; exact Nat.ne_of_lt (blk_lt (g := gb699) (o := .cells #[.int .i64 a0_0, .int .i64 a0_1, .slice A0_2 l0_2.length c0_2, .slice A0_3 l0_3.length c0_3] 26 (0, 0)) (by (with_reducible repeat (first | refine blk_drewN ?_ _ | refine blk_drew ?_ | refine blk_alloc ?_ _)); exact BK699.out)) : gb699 ≠ gb700)); have n6_ := Aside0.mk ((by rw [hg]; exact Nat.ne_of_gt (blk_lt (g := gb699) (o := .cells #[.int .i64 a0_0, .int .i64 a0_1, .slice A0_2 l0_2.length c0_2, .slice A0_3 l0_3.length c0_3] 26 (0, 0)) (by (with_reducible repeat (first | refine blk_drewN ?_ _ | refine blk_drew ?_ | refine blk_alloc ?_ _)); exact BK699.out)) : gb700 ≠ gb699)); clear BK699; clear HB; have BK699 := n0_; have HB := n1_; have BK700 := n2_; have GW700 := n3_; have GE700 := n4_; have NB699_700 := n5_; have NB700_699 := n6_; clear n0_ n1_ n2_ n3_ n4_ n5_ n6_; clear hb hbox hg; have hnb12 := NB699_700.out; have hnc12 := NB700_699.out; have hcz13_0 : w11.cell? ⟨gb699, 0, none⟩ = some (.int .i64 a0_0) := (blk_cell BK699.out 0).trans rfl; have hcz13_1 : w11.cell? ⟨gb699, 1, none⟩ = some (.int .i64 a0_1) := (blk_cell BK699.out 1).trans rfl; have hcz13_2 : w11.cell? ⟨gb699, 2, none⟩ = some (.slice A0_2 l0_2.length c0_2) := (blk_cell BK699.out 2).trans rfl; have hcz13_3 : w11.cell? ⟨gb699, 3, none⟩ = some (.slice A0_3 l0_3.length c0_3) := (blk_cell BK699.out 3).trans rfl; have hfz13_0 := blk_frozen BK699.out 0; have hfz13_1 := blk_frozen BK699.out 1; have hfz13_2 := blk_frozen BK699.out 2; have hfz13_3 := blk_frozen BK699.out 3) | ((with_reducible refine gate_callee (f := 48) rfl ?_); refine goesL_ (some 5) rfl rfl Tryd.func48 (by kernel_rfl) rfl #[.agg #[.int .i64 a0_0, .int .i64 a0_1, .slice A0_2 l0_2.length c0_2, .slice A0_3 l0_3.length c0_3]] rfl (by (try simp only [List.map_toArray, List.map_cons, List.map_nil]); first | done | rfl | (simp only [List.length_drop, List.length_take]; rfl)) ?_; (with_reducible refine (impl_IsFigure.calls k a0_0 a0_1 _ _ l0_2 _ _ l0_3 true _ ?side1 ?side2 ?side3 ?side4 A2.out).mono ?_); (case side1 => repeat (first | exact (Kd.C_below HR0_2.out HB.out) | (with_reducible refine Kd.C_alloc ?_ _) | (with_reducible refine Kd.C_drewN ?_ _) | (with_reducible refine Kd.C_drew ?_))); (case side2 => exact HC0_2.out); (case side3 => repeat (first | exact (Kd.C_below HR0_3.out HB.out) | (with_reducible refine Kd.C_alloc ?_ _) | (with_reducible refine Kd.C_drewN ?_ _) | (with_reducible refine Kd.C_drew ?_))); (case side4 => exact HC0_3.out); rintro e w14 ⟨rfl, hb⟩; refine ⟨_, rfl, ?_⟩; have n0_ := Aside0.mk (blk_below (g := gb699) (o := .cells #[.int .i64 a0_0, .int .i64 a0_1, .slice A0_2 l0_2.length c0_2, .slice A0_3 l0_3.length c0_3] 26 (0, 0)) (by (with_reducible repeat (first | refine blk_drewN ?_ _ | refine blk_drew ?_ | refine blk_alloc ?_ _)); exact BK699.out) hb); have n1_ := Aside0.mk (blk_below (g := gb700) (o := .cells #[.int .i64 0, .int .i64 0, .slice none 0 0, .slice none 0 0] 26 (0, 0)) (by (with_reducible repeat (first | refine blk_drewN ?_ _ | refine blk_drew ?_ | refine blk_alloc ?_ _)); exact BK700.out) hb); have n2_ := Aside0.mk (below_step (by repeat (first | (with_reducible first | exact HB.out | apply below_alloc | apply pw_below_drewN | apply below_drew1 | refine below_set ?_ GE699.out | refine below_set ?_ GE700.out) | exact HB.out)) hb); clear BK699; clear BK700; clear HB; have BK699 := n0_; have BK700 := n1_; have HB := n2_; clear n0_ n1_ n2_; (try clear hb); (try clear hb2); (try clear hk); (try clear hi)))
    have n0_ := Aside0.mk (blk_drew BK699.out)
    have n1_ := Aside0.mk (blk_drew BK700.out)
    have n2_ := Aside0.mk (below_drew1 HB.out)
    clear BK699
    clear BK700
    clear HB
    have BK699 := n0_
    have BK700 := n1_
    have HB := n2_
    clear n0_ n1_ n2_
    refine start_ (n := 11) (S := fun w' => w'.cell? ⟨gb699, 0, none⟩ = some (.int .i64 a0_0) ∧ w'.cell? ⟨gb699, 1, none⟩ = some (.int .i64 a0_1) ∧ w'.cell? ⟨gb699, 2, none⟩ = some (.slice A0_2 l0_2.length c0_2) ∧ w'.cell? ⟨gb699, 3, none⟩ = some (.slice A0_3 l0_3.length c0_3)) (ds := []) #[false, false, false, false, false, false, false, false, false, false, false] (by kernel_rfl) rfl rfl ⟨(blk_cell BK699.out 0).trans rfl, (blk_cell BK699.out 1).trans rfl, (blk_cell BK699.out 2).trans rfl, (blk_cell BK699.out 3).trans rfl⟩ (fun hHeld => ?_); refine with_tabW impl_NeedlessMatches.tab3 impl_NeedlessMatches.bits3 (fun HT_ HW_ => ?_)
    generalize w14.drew = w15 at BK699 BK700 HB hHeld ⊢
    refine take_ (i := 0) (N := some 8) (v := ?_) (a' := ?_) #[true, false, false, false, false, false, false, false, false, false, false] rfl rfl (take_ofW HT_.out HW_.out (by kernel_rfl)) (fun _ _ _ h => h) (Or.inl ⟨by rfl, ?_⟩) hHeld ?_ ?_
    rotate_left
    · rintro w' ⟨s0, s1, s2, s3⟩
      go_simp
      with_reducible rfl
    rotate_left
    · simp only [Act.put, List.setIfInBounds_toArray, List.set_cons_zero, List.set_cons_succ, i64_w, i32_w]
      rfl
    refine take_ (i := 2) (N := some 10) (v := ?_) (a' := ?_) #[true, false, true, false, false, false, false, false, false, false, false] rfl rfl (take_ofW HT_.out HW_.out (by kernel_rfl)) (fun _ _ _ h => h) (Or.inl ⟨by rfl, ?_⟩) hHeld ?_ ?_
    rotate_left
    · rintro w' ⟨s0, s1, s2, s3⟩
      go_simp
      with_reducible rfl
    rotate_left
    · simp only [Act.put, List.setIfInBounds_toArray, List.set_cons_zero, List.set_cons_succ, i64_w, i32_w]
      rfl
    refine take_ (i := 5) (N := some 13) (v := ?_) (a' := ?_) #[true, false, true, false, false, true, false, false, false, false, false] rfl rfl (take_ofW HT_.out HW_.out (by kernel_rfl)) (fun _ _ _ h => h) (Or.inl ⟨by rfl, ?_⟩) hHeld ?_ ?_
    rotate_left
    · rintro w' ⟨s0, s1, s2, s3⟩
      go_simp
      with_reducible rfl
    rotate_left
    · simp only [Act.put, List.setIfInBounds_toArray, List.set_cons_zero, List.set_cons_succ, i64_w, i32_w]
      rfl
    refine one_ (i := 1) (N := some 9) #[true, true, true, false, false, true, false, false, false, false, false] rfl rfl (one_of HT_.out (by kernel_rfl)) (by decide) (fun K hK => ?_)
    refine goes_ Tryd.func39 (by kernel_rfl) rfl #[.agg #[.int .i64 a0_0, .int .i64 a0_1, .slice A0_2 l0_2.length c0_2, .slice A0_3 l0_3.length c0_3]] (by rfl) rfl rfl (by (try simp only [List.map_toArray, List.map_cons, List.map_nil]); first | done | rfl | (simp only [List.length_drop, List.length_take]; rfl)) ?_
    with_reducible refine (impl_Figure_grid.calls a0_0 a0_1 _ _ l0_2 _ _ l0_3 t702 t703 _ ?side1 ?side2 ?side3 ?side4 A4.out).mono ?_
    (case side1 => repeat (first | exact (Kd.C_below HR0_2.out HB.out) | (with_reducible refine Kd.C_alloc ?_ _) | (with_reducible refine Kd.C_drewN ?_ _) | (with_reducible refine Kd.C_drew ?_)))
    (case side2 => exact HC0_2.out)
    (case side3 => repeat (first | exact (Kd.C_below HR0_3.out HB.out) | (with_reducible refine Kd.C_alloc ?_ _) | (with_reducible refine Kd.C_drewN ?_ _) | (with_reducible refine Kd.C_drew ?_)))
    (case side4 => exact HC0_3.out)
    rintro e w16 ⟨rfl, hb⟩
    refine ⟨_, rfl, ?_⟩
    have n0_ := Aside0.mk (blk_below (g := gb699) (o := .cells #[.int .i64 a0_0, .int .i64 a0_1, .slice A0_2 l0_2.length c0_2, .slice A0_3 l0_3.length c0_3] 26 (0, 0)) (by (with_reducible repeat (first | refine blk_drewN ?_ _ | refine blk_drew ?_ | refine blk_alloc ?_ _)); exact BK699.out) hb)
    have n1_ := Aside0.mk (blk_below (g := gb700) (o := .cells #[.int .i64 0, .int .i64 0, .slice none 0 0, .slice none 0 0] 26 (0, 0)) (by (with_reducible repeat (first | refine blk_drewN ?_ _ | refine blk_drew ?_ | refine blk_alloc ?_ _)); exact BK700.out) hb)
    have n2_ := Aside0.mk (below_step (by repeat (first | (with_reducible first | exact HB.out | apply below_alloc | apply pw_below_drewN | apply below_drew1 | refine below_set ?_ GE699.out | refine below_set ?_ GE700.out) | exact HB.out)) hb)
    clear BK699
    clear BK700
    clear HB
    have BK699 := n0_
    have BK700 := n1_
    have HB := n2_
    clear n0_ n1_ n2_
    (try clear hb)
    (try clear hb2)
    (try clear hk)
    (try clear hi)
    refine hK.out _ _ ⟨(blk_cell BK699.out 0).trans rfl, (blk_cell BK699.out 1).trans rfl, (blk_cell BK699.out 2).trans rfl, (blk_cell BK699.out 3).trans rfl⟩ (fun hHeld => ?_)
    clear hK K
    refine norm_ (a' := ?_) ?_ ?_
    rotate_left
    · show Act.put _ (some 9) _ = _
      simp only [Act.put, List.setIfInBounds_toArray, List.set_cons_zero, List.set_cons_succ, i64_w, i32_w]
      rfl
    refine one_ (i := 3) (N := some 11) #[true, true, true, true, false, true, false, false, false, false, false] rfl rfl (one_of HT_.out (by kernel_rfl)) (by decide) (fun K hK => ?_)
    refine goes_ Tryd.func39 (by kernel_rfl) rfl #[.agg #[.int .i64 a0_0, .int .i64 a0_1, .slice A0_2 l0_2.length c0_2, .slice A0_3 l0_3.length c0_3]] (by rfl) rfl rfl (by (try simp only [List.map_toArray, List.map_cons, List.map_nil]); first | done | rfl | (simp only [List.length_drop, List.length_take]; rfl)) ?_
    with_reducible refine (impl_Figure_grid.calls a0_0 a0_1 _ _ l0_2 _ _ l0_3 t704 t705 _ ?side1 ?side2 ?side3 ?side4 A5.out).mono ?_
    (case side1 => repeat (first | exact (Kd.C_below HR0_2.out HB.out) | (with_reducible refine Kd.C_alloc ?_ _) | (with_reducible refine Kd.C_drewN ?_ _) | (with_reducible refine Kd.C_drew ?_)))
    (case side2 => exact HC0_2.out)
    (case side3 => repeat (first | exact (Kd.C_below HR0_3.out HB.out) | (with_reducible refine Kd.C_alloc ?_ _) | (with_reducible refine Kd.C_drewN ?_ _) | (with_reducible refine Kd.C_drew ?_)))
    (case side4 => exact HC0_3.out)
    rintro e w17 ⟨rfl, hb⟩
    refine ⟨_, rfl, ?_⟩
    have n0_ := Aside0.mk (blk_below (g := gb699) (o := .cells #[.int .i64 a0_0, .int .i64 a0_1, .slice A0_2 l0_2.length c0_2, .slice A0_3 l0_3.length c0_3] 26 (0, 0)) (by (with_reducible repeat (first | refine blk_drewN ?_ _ | refine blk_drew ?_ | refine blk_alloc ?_ _)); exact BK699.out) hb)
    have n1_ := Aside0.mk (blk_below (g := gb700) (o := .cells #[.int .i64 0, .int .i64 0, .slice none 0 0, .slice none 0 0] 26 (0, 0)) (by (with_reducible repeat (first | refine blk_drewN ?_ _ | refine blk_drew ?_ | refine blk_alloc ?_ _)); exact BK700.out) hb)
    have n2_ := Aside0.mk (below_step (by repeat (first | (with_reducible first | exact HB.out | apply below_alloc | apply pw_below_drewN | apply below_drew1 | refine below_set ?_ GE699.out | refine below_set ?_ GE700.out) | exact HB.out)) hb)
    clear BK699
    clear BK700
    clear HB
    have BK699 := n0_
    have BK700 := n1_
    have HB := n2_
    clear n0_ n1_ n2_
    (try clear hb)
    (try clear hb2)
    (try clear hk)
    (try clear hi)
    refine hK.out _ _ ⟨(blk_cell BK699.out 0).trans rfl, (blk_cell BK699.out 1).trans rfl, (blk_cell BK699.out 2).trans rfl, (blk_cell BK699.out 3).trans rfl⟩ (fun hHeld => ?_)
    clear hK K
    refine norm_ (a' := ?_) ?_ ?_
    rotate_left
    · show Act.put _ (some 11) _ = _
      simp only [Act.put, List.setIfInBounds_toArray, List.set_cons_zero, List.set_cons_succ, i64_w, i32_w]
      rfl
    refine one_ (i := 4) (N := some 12) #[true, true, true, true, true, true, false, false, false, false, false] rfl rfl (one_of HT_.out (by kernel_rfl)) (by decide) (fun K hK => ?_)
    refine goes_ Tryd.func60 (by kernel_rfl) rfl #[.agg #[.int .i64 t704, .int .i64 t705]] (by rfl) rfl rfl (by (try simp only [List.map_toArray, List.map_cons, List.map_nil]); first | done | rfl | (simp only [List.length_drop, List.length_take]; rfl)) ?_
    with_reducible refine (impl_grid_squares.calls k t704 t705 t706 _ A6.out).mono ?_
    rintro e w18 ⟨v707, rfl, ho0, hb⟩
    refine ⟨_, rfl, ?_⟩
    have n0_ := Aside0.mk (Kd.R_lower ho0 (below_size (by repeat (first | (with_reducible first | exact HB.out | apply below_alloc | apply pw_below_drewN | apply below_drew1 | refine below_set ?_ GE699.out | refine below_set ?_ GE700.out) | exact HB.out))))
    have n1_ := Aside0.mk (blk_below (g := gb699) (o := .cells #[.int .i64 a0_0, .int .i64 a0_1, .slice A0_2 l0_2.length c0_2, .slice A0_3 l0_3.length c0_3] 26 (0, 0)) (by (with_reducible repeat (first | refine blk_drewN ?_ _ | refine blk_drew ?_ | refine blk_alloc ?_ _)); exact BK699.out) hb)
    have n2_ := Aside0.mk (blk_below (g := gb700) (o := .cells #[.int .i64 0, .int .i64 0, .slice none 0 0, .slice none 0 0] 26 (0, 0)) (by (with_reducible repeat (first | refine blk_drewN ?_ _ | refine blk_drew ?_ | refine blk_alloc ?_ _)); exact BK700.out) hb)
    have n3_ := Aside0.mk (below_step (by repeat (first | (with_reducible first | exact HB.out | apply below_alloc | apply pw_below_drewN | apply below_drew1 | refine below_set ?_ GE699.out | refine below_set ?_ GE700.out) | exact HB.out)) hb)
    clear BK699
    clear BK700
    clear HB
    have HO708 := n0_
    have BK699 := n1_
    have BK700 := n2_
    have HB := n3_
    clear n0_ n1_ n2_ n3_
    (try clear hb)
    (try clear hb2)
    (try clear hk)
    (try clear hi)
    (try clear ho0)
    refine hK.out _ _ ⟨(blk_cell BK699.out 0).trans rfl, (blk_cell BK699.out 1).trans rfl, (blk_cell BK699.out 2).trans rfl, (blk_cell BK699.out 3).trans rfl⟩ (fun hHeld => ?_)
    clear hK K
    refine norm_ (a' := ?_) ?_ ?_
    rotate_left
    · show Act.put _ (some 12) _ = _
      simp only [Act.put, List.setIfInBounds_toArray, List.set_cons_zero, List.set_cons_succ, i64_w, i32_w]
      rfl
    refine one_ (i := 6) (N := some 14) #[true, true, true, true, true, true, true, false, false, false, false] rfl rfl (one_of HT_.out (by kernel_rfl)) (by decide) (fun K hK => ?_)
    refine goes_ Tryd.func41 (by kernel_rfl) rfl #[.agg #[.int .i64 a0_0, .int .i64 a0_1, .slice A0_2 l0_2.length c0_2, .slice A0_3 l0_3.length c0_3]] (by rfl) rfl rfl (by (try simp only [List.map_toArray, List.map_cons, List.map_nil]); first | done | rfl | (simp only [List.length_drop, List.length_take]; rfl)) ?_
    with_reducible refine (impl_Figure_set.calls k a0_0 a0_1 _ _ l0_2 _ _ l0_3 t709 _ ?side1 ?side2 ?side3 ?side4 A7.out).mono ?_
    (case side1 => repeat (first | exact (Kd.C_below HR0_2.out HB.out) | (with_reducible refine Kd.C_alloc ?_ _) | (with_reducible refine Kd.C_drewN ?_ _) | (with_reducible refine Kd.C_drew ?_)))
    (case side2 => exact HC0_2.out)
    (case side3 => repeat (first | exact (Kd.C_below HR0_3.out HB.out) | (with_reducible refine Kd.C_alloc ?_ _) | (with_reducible refine Kd.C_drewN ?_ _) | (with_reducible refine Kd.C_drew ?_)))
    (case side4 => exact HC0_3.out)
    rintro e w19 ⟨rfl, hb⟩
    refine ⟨_, rfl, ?_⟩
    have n0_ := Aside0.mk (Kd.R_below (by (with_reducible repeat (first | apply Kd.R_alloc | apply Kd.R_drewN | apply Kd.R_drew)); exact HO708.out) hb)
    have n1_ := Aside0.mk (blk_below (g := gb699) (o := .cells #[.int .i64 a0_0, .int .i64 a0_1, .slice A0_2 l0_2.length c0_2, .slice A0_3 l0_3.length c0_3] 26 (0, 0)) (by (with_reducible repeat (first | refine blk_drewN ?_ _ | refine blk_drew ?_ | refine blk_alloc ?_ _)); exact BK699.out) hb)
    have n2_ := Aside0.mk (blk_below (g := gb700) (o := .cells #[.int .i64 0, .int .i64 0, .slice none 0 0, .slice none 0 0] 26 (0, 0)) (by (with_reducible repeat (first | refine blk_drewN ?_ _ | refine blk_drew ?_ | refine blk_alloc ?_ _)); exact BK700.out) hb)
    have n3_ := Aside0.mk (below_step (by repeat (first | (with_reducible first | exact HB.out | apply below_alloc | apply pw_below_drewN | apply below_drew1 | refine below_set ?_ GE699.out | refine below_set ?_ GE700.out) | exact HB.out)) hb)
    clear HO708
    clear BK699
    clear BK700
    clear HB
    have HO708 := n0_
    have BK699 := n1_
    have BK700 := n2_
    have HB := n3_
    clear n0_ n1_ n2_ n3_
    (try clear hb)
    (try clear hb2)
    (try clear hk)
    (try clear hi)
    obtain ⟨Ao20, co20, eo20⟩ := Kd.R_slice HO708.out
    (first | subst eo20 | (injection eo20 with f1_ f2_ f3_; have f4_ := f1_.symm; have f5_ := f3_.symm; clear f1_ f2_ f3_; subst f4_; subst f5_))
    refine hK.out _ _ ⟨(blk_cell BK699.out 0).trans rfl, (blk_cell BK699.out 1).trans rfl, (blk_cell BK699.out 2).trans rfl, (blk_cell BK699.out 3).trans rfl⟩ (fun hHeld => ?_)
    clear hK K
    refine norm_ (a' := ?_) ?_ ?_
    rotate_left
    · show Act.put _ (some 14) _ = _
      simp only [Act.put, List.setIfInBounds_toArray, List.set_cons_zero, List.set_cons_succ, i64_w, i32_w]
      rfl
    refine one_ (i := 7) (N := some 15) #[true, true, true, true, true, true, true, true, false, false, false] rfl rfl (one_of HT_.out (by kernel_rfl)) (by decide) (fun K hK => ?_)
    refine goes_ Tryd.func59 (by kernel_rfl) rfl #[.slice Ao20 t706.length co20, .int .u64 t709] (by rfl) rfl rfl (by (try simp only [List.map_toArray, List.map_cons, List.map_nil]); first | done | rfl | (simp only [List.length_drop, List.length_take]; rfl)) ?_
    with_reducible refine (impl_needless.calls k _ _ t706 t709 t710 _ ?side1 ?side2 A8.out).mono ?_
    (case side1 => repeat (first | exact (Kd.R_reads' HO708.out).2.2 | (with_reducible refine Kd.C_alloc ?_ _) | (with_reducible refine Kd.C_drewN ?_ _) | (with_reducible refine Kd.C_drew ?_)))
    (case side2 => exact (Kd.R_reads' HO708.out).2.1)
    rintro e w21 ⟨rfl, hb⟩
    refine ⟨_, rfl, ?_⟩
    have n0_ := Aside0.mk (Kd.R_below (by (with_reducible repeat (first | apply Kd.R_alloc | apply Kd.R_drewN | apply Kd.R_drew)); exact HO708.out) hb)
    have n1_ := Aside0.mk (blk_below (g := gb699) (o := .cells #[.int .i64 a0_0, .int .i64 a0_1, .slice A0_2 l0_2.length c0_2, .slice A0_3 l0_3.length c0_3] 26 (0, 0)) (by (with_reducible repeat (first | refine blk_drewN ?_ _ | refine blk_drew ?_ | refine blk_alloc ?_ _)); exact BK699.out) hb)
    have n2_ := Aside0.mk (blk_below (g := gb700) (o := .cells #[.int .i64 0, .int .i64 0, .slice none 0 0, .slice none 0 0] 26 (0, 0)) (by (with_reducible repeat (first | refine blk_drewN ?_ _ | refine blk_drew ?_ | refine blk_alloc ?_ _)); exact BK700.out) hb)
    have n3_ := Aside0.mk (below_step (by repeat (first | (with_reducible first | exact HB.out | apply below_alloc | apply pw_below_drewN | apply below_drew1 | refine below_set ?_ GE699.out | refine below_set ?_ GE700.out) | exact HB.out)) hb)
    clear HO708
    clear BK699
    clear BK700
    clear HB
    have HO708 := n0_
    have BK699 := n1_
    have BK700 := n2_
    have HB := n3_
    clear n0_ n1_ n2_ n3_
    (try clear hb)
    (try clear hb2)
    (try clear hk)
    (try clear hi)
    refine hK.out _ _ ⟨(blk_cell BK699.out 0).trans rfl, (blk_cell BK699.out 1).trans rfl, (blk_cell BK699.out 2).trans rfl, (blk_cell BK699.out 3).trans rfl⟩ (fun hHeld => ?_)
    clear hK K
    refine norm_ (a' := ?_) ?_ ?_
    rotate_left
    · show Act.put _ (some 15) _ = _
      simp only [Act.put, List.setIfInBounds_toArray, List.set_cons_zero, List.set_cons_succ, i64_w, i32_w]
      rfl
    refine one_ (i := 8) (N := some 16) #[true, true, true, true, true, true, true, true, true, false, false] rfl rfl (one_of HT_.out (by kernel_rfl)) (by decide) (fun K hK => ?_)
    refine goes_ Tryd.func40 (by kernel_rfl) rfl #[.agg #[.int .i64 t702, .int .i64 t703], .int .u64 t710] (by rfl) rfl rfl (by (try simp only [List.map_toArray, List.map_cons, List.map_nil]); first | done | rfl | (simp only [List.length_drop, List.length_take]; rfl)) ?_
    with_reducible refine (impl_grid_figure.calls t702 t703 t710 t711 t712 t713 t716 _ (TB.below HTB.out (by repeat (first | (with_reducible first | exact HB.out | apply below_alloc | apply pw_below_drewN | apply below_drew1 | refine below_set ?_ GE699.out | refine below_set ?_ GE700.out) | exact HB.out))) A9.out).mono ?_
    rintro e w22 ⟨v714, v717, rfl, ho0, ho1, hb⟩
    refine ⟨_, rfl, ?_⟩
    have n0_ := Aside0.mk (Kd.R_below (by (with_reducible repeat (first | apply Kd.R_alloc | apply Kd.R_drewN | apply Kd.R_drew)); exact HO708.out) hb)
    have n1_ := Aside0.mk (Kd.R_lower ho0 (below_size (by repeat (first | (with_reducible first | exact HB.out | apply below_alloc | apply pw_below_drewN | apply below_drew1 | refine below_set ?_ GE699.out | refine below_set ?_ GE700.out) | exact HB.out))))
    have n2_ := Aside0.mk (Kd.R_lower ho1 (below_size (by repeat (first | (with_reducible first | exact HB.out | apply below_alloc | apply pw_below_drewN | apply below_drew1 | refine below_set ?_ GE699.out | refine below_set ?_ GE700.out) | exact HB.out))))
    have n3_ := Aside0.mk (blk_below (g := gb699) (o := .cells #[.int .i64 a0_0, .int .i64 a0_1, .slice A0_2 l0_2.length c0_2, .slice A0_3 l0_3.length c0_3] 26 (0, 0)) (by (with_reducible repeat (first | refine blk_drewN ?_ _ | refine blk_drew ?_ | refine blk_alloc ?_ _)); exact BK699.out) hb)
    have n4_ := Aside0.mk (blk_below (g := gb700) (o := .cells #[.int .i64 0, .int .i64 0, .slice none 0 0, .slice none 0 0] 26 (0, 0)) (by (with_reducible repeat (first | refine blk_drewN ?_ _ | refine blk_drew ?_ | refine blk_alloc ?_ _)); exact BK700.out) hb)
    have n5_ := Aside0.mk (below_step (by repeat (first | (with_reducible first | exact HB.out | apply below_alloc | apply pw_below_drewN | apply below_drew1 | refine below_set ?_ GE699.out | refine below_set ?_ GE700.out) | exact HB.out)) hb)
    clear HO708
    clear BK699
    clear BK700
    clear HB
    have HO708 := n0_
    have HO715 := n1_
    have HO718 := n2_
    have BK699 := n3_
    have BK700 := n4_
    have HB := n5_
    clear n0_ n1_ n2_ n3_ n4_ n5_
    (try clear hb)
    (try clear hb2)
    (try clear hk)
    (try clear hi)
    (try clear ho0)
    (try clear ho1)
    obtain ⟨Ao25, co25, eo25⟩ := Kd.R_slice HO715.out
    (first | subst eo25 | (injection eo25 with f1_ f2_ f3_; have f4_ := f1_.symm; have f5_ := f3_.symm; clear f1_ f2_ f3_; subst f4_; subst f5_))
    obtain ⟨Ao27, co27, eo27⟩ := Kd.R_slice HO718.out
    (first | subst eo27 | (injection eo27 with f1_ f2_ f3_; have f4_ := f1_.symm; have f5_ := f3_.symm; clear f1_ f2_ f3_; subst f4_; subst f5_))
    refine hK.out _ _ ⟨(blk_cell BK699.out 0).trans rfl, (blk_cell BK699.out 1).trans rfl, (blk_cell BK699.out 2).trans rfl, (blk_cell BK699.out 3).trans rfl⟩ (fun hHeld => ?_)
    clear hK K
    refine norm_ (a' := ?_) ?_ ?_
    rotate_left
    · show Act.put _ (some 16) _ = _
      simp only [Act.put, List.setIfInBounds_toArray, List.set_cons_zero, List.set_cons_succ, i64_w, i32_w]
      rfl
    refine one_ (i := 9) (N := none) #[true, true, true, true, true, true, true, true, true, true, false] rfl rfl (one_of HT_.out (by kernel_rfl)) (by decide) (fun K hK => ?_)
    have hs23 : w22.cell? ⟨gb700, 0, none⟩ = some (.int .i64 0) := (blk_cell BK700.out 0).trans rfl
    have hfs23 := blk_frozen BK700.out 0
    have hns23_0 := NB699_700.out
    have hms23_0 := NB700_699.out
    have hs24 : w22.cell? ⟨gb700, 1, none⟩ = some (.int .i64 0) := (blk_cell BK700.out 1).trans rfl
    have hfs24 := blk_frozen BK700.out 1
    have hns24_0 := NB699_700.out
    have hms24_0 := NB700_699.out
    have hs26 : w22.cell? ⟨gb700, 2, none⟩ = some (.slice none 0 0) := (blk_cell BK700.out 2).trans rfl
    have hfs26 := blk_frozen BK700.out 2
    have hns26_0 := NB699_700.out
    have hms26_0 := NB700_699.out
    have hs28 : w22.cell? ⟨gb700, 3, none⟩ = some (.slice none 0 0) := (blk_cell BK700.out 3).trans rfl
    have hfs28 := blk_frozen BK700.out 3
    have hns28_0 := NB699_700.out
    have hms28_0 := NB700_699.out
    refine skip_ (w1 := ?_) (by rfl) rfl ?_ ?_
    rotate_left
    · go_simp
      rfl
    refine hK.out _ _ ⟨((cell_far (p := ⟨gb700, _, none⟩) NB699_700.out _).trans (((cell_far (p := ⟨gb700, _, none⟩) NB699_700.out _).trans (((cell_far (p := ⟨gb700, _, none⟩) NB699_700.out _).trans (((cell_far (p := ⟨gb700, _, none⟩) NB699_700.out _).trans (hHeld.1)))))))), ((cell_far (p := ⟨gb700, _, none⟩) NB699_700.out _).trans (((cell_far (p := ⟨gb700, _, none⟩) NB699_700.out _).trans (((cell_far (p := ⟨gb700, _, none⟩) NB699_700.out _).trans (((cell_far (p := ⟨gb700, _, none⟩) NB699_700.out _).trans (hHeld.2.1)))))))), ((cell_far (p := ⟨gb700, _, none⟩) NB699_700.out _).trans (((cell_far (p := ⟨gb700, _, none⟩) NB699_700.out _).trans (((cell_far (p := ⟨gb700, _, none⟩) NB699_700.out _).trans (((cell_far (p := ⟨gb700, _, none⟩) NB699_700.out _).trans (hHeld.2.2.1)))))))), ((cell_far (p := ⟨gb700, _, none⟩) NB699_700.out _).trans (((cell_far (p := ⟨gb700, _, none⟩) NB699_700.out _).trans (((cell_far (p := ⟨gb700, _, none⟩) NB699_700.out _).trans (((cell_far (p := ⟨gb700, _, none⟩) NB699_700.out _).trans (hHeld.2.2.2))))))))⟩ (fun hHeld => ?_)
    clear hK K
    refine pure_ (i := 10) (N := some 3) (v := ?_) (a' := ?_) #[true, true, true, true, true, true, true, true, true, true, true] rfl rfl (any_of HT_.out (by kernel_rfl)) (fun _ _ _ h => h) (Or.inl ⟨by rfl, ?_⟩) ?_ ?_
    rotate_left
    · intro w'
      go_simp
      with_reducible rfl
    rotate_left
    · simp only [Act.put, List.setIfInBounds_toArray, List.set_cons_zero, List.set_cons_succ, i64_w, i32_w]
      rfl
    refine done_ (done_of HT_.out (by kernel_rfl)) ?_
    try go_wp2
    refine bodyPost_ret (results_ct rfl _ _ gb700 26 #[.int .i64 t711, .int .i64 t712, .slice Ao25 t713.length co25, .slice Ao27 t716.length co27] (0, 0) _ rfl (by (with_reducible repeat (first | refine blk_drewN ?_ _ | refine blk_drew ?_ | refine blk_alloc ?_ _)); refine blk_put (cs := #[.int .i64 t711, .int .i64 t712, .slice Ao25 t713.length co25, .slice none 0 0]) ?_ 3 _ rfl; (with_reducible repeat (first | refine blk_drewN ?_ _ | refine blk_drew ?_ | refine blk_alloc ?_ _)); refine blk_put (cs := #[.int .i64 t711, .int .i64 t712, .slice none 0 0, .slice none 0 0]) ?_ 2 _ rfl; (with_reducible repeat (first | refine blk_drewN ?_ _ | refine blk_drew ?_ | refine blk_alloc ?_ _)); refine blk_put (cs := #[.int .i64 t711, .int .i64 0, .slice none 0 0, .slice none 0 0]) ?_ 1 _ rfl; (with_reducible repeat (first | refine blk_drewN ?_ _ | refine blk_drew ?_ | refine blk_alloc ?_ _)); refine blk_put (cs := #[.int .i64 0, .int .i64 0, .slice none 0 0, .slice none 0 0]) ?_ 0 _ rfl; (with_reducible repeat (first | refine blk_drewN ?_ _ | refine blk_drew ?_ | refine blk_alloc ?_ _)); exact BK700.out) Tryd.underlying26 rfl (by kernel_rfl)) rfl ?_
    exact ⟨_, _, by first | rfl | (simp [errW_none, errW_some] <;> rfl) | (simp [*, errW_none, errW_some] <;> rfl), by (with_reducible repeat (first | apply Kd.R_alloc | apply Kd.R_drewN | apply Kd.R_drew)); exact Kd.R_mono (Kd.R_far (p := ⟨gb700, 3, none⟩) (Kd.R_far (p := ⟨gb700, 2, none⟩) (Kd.R_far (p := ⟨gb700, 1, none⟩) (Kd.R_far (p := ⟨gb700, 0, none⟩) (Kd.R_types HO715.out BK700.out (by decide)) (fun _ hk => hk.2) (.int .i64 t711)) (fun _ hk => hk.2) (.int .i64 t712)) (fun _ hk => hk.2) (.slice Ao25 t713.length co25)) (fun _ hk => hk.2) (.slice Ao27 t716.length co27)) (fun _ hk => hk.1), by (with_reducible repeat (first | apply Kd.R_alloc | apply Kd.R_drewN | apply Kd.R_drew)); exact Kd.R_mono (Kd.R_far (p := ⟨gb700, 3, none⟩) (Kd.R_far (p := ⟨gb700, 2, none⟩) (Kd.R_far (p := ⟨gb700, 1, none⟩) (Kd.R_far (p := ⟨gb700, 0, none⟩) (Kd.R_types HO718.out BK700.out (by decide)) (fun _ hk => hk.2) (.int .i64 t711)) (fun _ hk => hk.2) (.int .i64 t712)) (fun _ hk => hk.2) (.slice Ao25 t713.length co25)) (fun _ hk => hk.2) (.slice Ao27 t716.length co27)) (fun _ hk => hk.1), by repeat (first | (with_reducible first | exact HB.out | apply below_alloc | apply pw_below_drewN | apply below_drew1 | refine below_set ?_ GE699.out | refine below_set ?_ GE700.out) | exact HB.out)⟩
  · replace c3 := Bool.eq_false_iff.mpr c3
    subst c3
    have H1 : (some (0, 0, ([] : List Int), ([] : List Int), false)) = some (r1, r2, r3, r4, r5) := by rw [if_neg (show ¬ (false = true) by decide)] at H; exact H
    clear H
    have H := H1
    clear H1
    simp only [Option.some.injEq, Prod.mk.injEq] at H
    obtain ⟨rfl, rfl, rfl, rfl, rfl⟩ := H
    go_enter Tryd.func25, Tryd.ntmps25
    go_wp2_with (first | ((with_reducible refine gate_dst (N := 1) rfl ?_); refine box_event ?hg (N := 1) ?hd (cs := #[.int .i64 a0_0, .int .i64 a0_1, .slice A0_2 l0_2.length c0_2, .slice A0_3 l0_3.length c0_3]) (t := 26) ?hr ?_; (case hd => rfl); (case hg => rfl); (case hr => first | (go_simp; done) | (go_simp; rfl)); intro gb699 hg w29 hbox hb; have n0_ := Aside0.mk (below_step (by repeat (first | (with_reducible first | exact HB.out | apply below_alloc | apply pw_below_drewN | apply below_drew1) | exact HB.out)) hb); have n1_ := Aside0.mk (hbox); have n2_ := Aside0.mk ((by rw [hg]; exact (below_size (by repeat (first | (with_reducible first | exact HB.out | apply below_alloc | apply pw_below_drewN | apply below_drew1) | exact HB.out))) : w.heap.size ≤ gb699)); have n3_ := Aside0.mk ((by rw [hg]; exact (below_size (by repeat (first | (with_reducible first | exact HB.out | apply below_alloc | apply pw_below_drewN | apply below_drew1) | exact HB.out))) : w.heap.size ≤ gb699)); clear HB; have HB := n0_; have BK699 := n1_; have GW699 := n2_; have GE699 := n3_; clear n0_ n1_ n2_ n3_; clear hb hbox hg) | ((with_reducible refine gate_dst (N := 2) rfl ?_); refine box_event ?hg (N := 2) ?hd (cs := #[.int .i64 0, .int .i64 0, .slice none 0 0, .slice none 0 0]) (t := 26) ?hr ?_; (case hd => rfl); (case hg => rfl); (case hr => first | (go_simp; done) | (go_simp; rfl)); intro gb700 hg w30 hbox hb; have n0_ := Aside0.mk (blk_below (g := gb699) (o := .cells #[.int .i64 a0_0, .int .i64 a0_1, .slice A0_2 l0_2.length c0_2, .slice A0_3 l0_3.length c0_3] 26 (0, 0)) (by (with_reducible repeat (first | refine blk_drewN ?_ _ | refine blk_drew ?_ | refine blk_alloc ?_ _)); exact BK699.out) hb); have n1_ := Aside0.mk (below_step (by repeat (first | (with_reducible first | exact HB.out | apply below_alloc | apply pw_below_drewN | apply below_drew1 | refine below_set ?_ GE699.out) | exact HB.out)) hb); have n2_ := Aside0.mk (hbox); have n3_ := Aside0.mk ((by rw [hg]; exact (below_size (by repeat (first | (with_reducible first | exact HB.out | apply below_alloc | apply pw_below_drewN | apply below_drew1 | refine below_set ?_ GE699.out) | exact HB.out))) : w.heap.size ≤ gb700)); have n4_ := Aside0.mk ((by rw [hg]; exact (below_size (by repeat (first | (with_reducible first | exact HB.out | apply below_alloc | apply pw_below_drewN | apply below_drew1 | refine below_set ?_ GE699.out) | exact HB.out))) : w.heap.size ≤ gb700)); have n5_ := Aside0.mk ((by rw [hg]; exact Nat.ne_of_lt (blk_lt (g := gb699) (o := .cells #[.int .i64 a0_0, .int .i64 a0_1, .slice A0_2 l0_2.length c0_2, .slice A0_3 l0_3.length c0_3] 26 (0, 0)) (by (with_reducible repeat (first | refine blk_drewN ?_ _ | refine blk_drew ?_ | refine blk_alloc ?_ _)); exact BK699.out)) : gb699 ≠ gb700)); have n6_ := Aside0.mk ((by rw [hg]; exact Nat.ne_of_gt (blk_lt (g := gb699) (o := .cells #[.int .i64 a0_0, .int .i64 a0_1, .slice A0_2 l0_2.length c0_2, .slice A0_3 l0_3.length c0_3] 26 (0, 0)) (by (with_reducible repeat (first | refine blk_drewN ?_ _ | refine blk_drew ?_ | refine blk_alloc ?_ _)); exact BK699.out)) : gb700 ≠ gb699)); clear BK699; clear HB; have BK699 := n0_; have HB := n1_; have BK700 := n2_; have GW700 := n3_; have GE700 := n4_; have NB699_700 := n5_; have NB700_699 := n6_; clear n0_ n1_ n2_ n3_ n4_ n5_ n6_; clear hb hbox hg; have hnb31 := NB699_700.out; have hnc31 := NB700_699.out; have hcz32_0 : w30.cell? ⟨gb699, 0, none⟩ = some (.int .i64 a0_0) := (blk_cell BK699.out 0).trans rfl; have hcz32_1 : w30.cell? ⟨gb699, 1, none⟩ = some (.int .i64 a0_1) := (blk_cell BK699.out 1).trans rfl; have hcz32_2 : w30.cell? ⟨gb699, 2, none⟩ = some (.slice A0_2 l0_2.length c0_2) := (blk_cell BK699.out 2).trans rfl; have hcz32_3 : w30.cell? ⟨gb699, 3, none⟩ = some (.slice A0_3 l0_3.length c0_3) := (blk_cell BK699.out 3).trans rfl; have hfz32_0 := blk_frozen BK699.out 0; have hfz32_1 := blk_frozen BK699.out 1; have hfz32_2 := blk_frozen BK699.out 2; have hfz32_3 := blk_frozen BK699.out 3) | ((with_reducible refine gate_callee (f := 48) rfl ?_); refine goesL_ (some 5) rfl rfl Tryd.func48 (by kernel_rfl) rfl #[.agg #[.int .i64 a0_0, .int .i64 a0_1, .slice A0_2 l0_2.length c0_2, .slice A0_3 l0_3.length c0_3]] rfl (by (try simp only [List.map_toArray, List.map_cons, List.map_nil]); first | done | rfl | (simp only [List.length_drop, List.length_take]; rfl)) ?_; (with_reducible refine (impl_IsFigure.calls k a0_0 a0_1 _ _ l0_2 _ _ l0_3 false _ ?side1 ?side2 ?side3 ?side4 A2.out).mono ?_); (case side1 => repeat (first | exact (Kd.C_below HR0_2.out HB.out) | (with_reducible refine Kd.C_alloc ?_ _) | (with_reducible refine Kd.C_drewN ?_ _) | (with_reducible refine Kd.C_drew ?_))); (case side2 => exact HC0_2.out); (case side3 => repeat (first | exact (Kd.C_below HR0_3.out HB.out) | (with_reducible refine Kd.C_alloc ?_ _) | (with_reducible refine Kd.C_drewN ?_ _) | (with_reducible refine Kd.C_drew ?_))); (case side4 => exact HC0_3.out); rintro e w33 ⟨rfl, hb⟩; refine ⟨_, rfl, ?_⟩; have n0_ := Aside0.mk (blk_below (g := gb699) (o := .cells #[.int .i64 a0_0, .int .i64 a0_1, .slice A0_2 l0_2.length c0_2, .slice A0_3 l0_3.length c0_3] 26 (0, 0)) (by (with_reducible repeat (first | refine blk_drewN ?_ _ | refine blk_drew ?_ | refine blk_alloc ?_ _)); exact BK699.out) hb); have n1_ := Aside0.mk (blk_below (g := gb700) (o := .cells #[.int .i64 0, .int .i64 0, .slice none 0 0, .slice none 0 0] 26 (0, 0)) (by (with_reducible repeat (first | refine blk_drewN ?_ _ | refine blk_drew ?_ | refine blk_alloc ?_ _)); exact BK700.out) hb); have n2_ := Aside0.mk (below_step (by repeat (first | (with_reducible first | exact HB.out | apply below_alloc | apply pw_below_drewN | apply below_drew1 | refine below_set ?_ GE699.out | refine below_set ?_ GE700.out) | exact HB.out)) hb); clear BK699; clear BK700; clear HB; have BK699 := n0_; have BK700 := n1_; have HB := n2_; clear n0_ n1_ n2_; (try clear hb); (try clear hb2); (try clear hk); (try clear hi); have hcz34_0 : w33.cell? ⟨gb700, 0, none⟩ = some (.int .i64 0) := (blk_cell BK700.out 0).trans rfl; have hcz34_1 : w33.cell? ⟨gb700, 1, none⟩ = some (.int .i64 0) := (blk_cell BK700.out 1).trans rfl; have hcz34_2 : w33.cell? ⟨gb700, 2, none⟩ = some (.slice none 0 0) := (blk_cell BK700.out 2).trans rfl; have hcz34_3 : w33.cell? ⟨gb700, 3, none⟩ = some (.slice none 0 0) := (blk_cell BK700.out 3).trans rfl; have hfz34_0 := blk_frozen BK700.out 0; have hfz34_1 := blk_frozen BK700.out 1; have hfz34_2 := blk_frozen BK700.out 2; have hfz34_3 := blk_frozen BK700.out 3))
    refine bodyPost_ret (results_ct rfl _ _ gb700 26 #[.int .i64 0, .int .i64 0, .slice none 0 0, .slice none 0 0] (0, 0) _ rfl (by (with_reducible repeat (first | refine blk_drewN ?_ _ | refine blk_drew ?_ | refine blk_alloc ?_ _)); refine blk_put (cs := #[.int .i64 0, .int .i64 0, .slice none 0 0, .slice none 0 0]) ?_ 3 _ rfl; (with_reducible repeat (first | refine blk_drewN ?_ _ | refine blk_drew ?_ | refine blk_alloc ?_ _)); refine blk_put (cs := #[.int .i64 0, .int .i64 0, .slice none 0 0, .slice none 0 0]) ?_ 2 _ rfl; (with_reducible repeat (first | refine blk_drewN ?_ _ | refine blk_drew ?_ | refine blk_alloc ?_ _)); refine blk_put (cs := #[.int .i64 0, .int .i64 0, .slice none 0 0, .slice none 0 0]) ?_ 1 _ rfl; (with_reducible repeat (first | refine blk_drewN ?_ _ | refine blk_drew ?_ | refine blk_alloc ?_ _)); refine blk_put (cs := #[.int .i64 0, .int .i64 0, .slice none 0 0, .slice none 0 0]) ?_ 0 _ rfl; (with_reducible repeat (first | refine blk_drewN ?_ _ | refine blk_drew ?_ | refine blk_alloc ?_ _)); exact BK700.out) Tryd.underlying26 rfl (by kernel_rfl)) rfl ?_
    exact ⟨_, _, by first | rfl | (simp [errW_none, errW_some] <;> rfl) | (simp [*, errW_none, errW_some] <;> rfl), by first | exact Kd.R_nil _ _ _ _ _ | exact Kd.N_nil _ _ _ _ _ | exact Kd.V_nil _ _ _ _ _ | exact Kd.Q_nil _ _ _ _ _ | exact Kd.S_nil _ _ _ _ _, by first | exact Kd.R_nil _ _ _ _ _ | exact Kd.N_nil _ _ _ _ _ | exact Kd.V_nil _ _ _ _ _ | exact Kd.Q_nil _ _ _ _ _ | exact Kd.S_nil _ _ _ _ _, by repeat (first | (with_reducible first | exact HB.out | apply below_alloc | apply pw_below_drewN | apply below_drew1 | refine below_set ?_ GE699.out | refine below_set ?_ GE700.out) | exact HB.out)⟩

end Go.Proofs.YtjnajeplfgdklaaDoor.P


namespace Go.Proofs.YtjnajeplfgdklaaDoor.P
open Go.RowKit Go.Proofs.YtjnajeplfgdklaaDoorW.PrintWords Go.Proofs.YtjnajeplfgdklaaDoorW.PrintLast Go.Proofs.YtjnajeplfgdklaaDoorW.PrintMore
attribute [local go_sem] max2_int min2_int max_two min_two max_three min_three max_four min_four   -- for this text's walks alone
set_option linter.unusedVariables false
set_option linter.unusedSimpArgs false

theorem bit_and_i64 {M e : Nat} (hM : M < 2 ^ 60) (he : e < 60) : (Go.bits .and .i64 (M : Int) ((2 ^ e : Nat) : Int) = 0) ↔ M.testBit e = false := by
  have h := and_two e M
  rw [Nat.and_comm] at h
  rw [and_i64 _ _ hM (pow_lt60 he), h]
  have hp := Nat.two_pow_pos e
  cases M.testBit e with
  | false => exact ⟨fun _ => rfl, fun _ => rfl⟩
  | true =>
    rw [if_pos rfl]
    constructor
    · intro h; omega
    · intro h; cases h
theorem step60 {A U i : Nat} (hA : A ≤ 20) (hU : U ≤ 20) (hi : i ≤ U) : A + i < 60 := by omega
theorem step60' {A i : Nat} (hA : A ≤ 20) (hi : i ≤ A) : i < 60 := by omega
theorem sqFigure_l1 {w h : Int} (g : GridOK w h) {M : Nat} (hM : M < 2 ^ 60) (z0 z1 : Int) (z2 : List Int) : ∀ (d k i : Nat), (h * (w + 1)).toNat - i = d → i ≤ (h * (w + 1)).toNat → d < k →
    spec_sqFigure.l1 k w h (M : Int) (i : Int) z0 z1 z2 (setL i fun i => M.testBit ((w * (h + 1)).toNat + i)) = some (z0, z1, z2, rowU w h M) := by
  obtain ⟨c1, c2, c3, c4⟩ := area_bounds g.w1 g.w4 g.h1 g.h4
  have HM := Aside0.mk hM
  clear hM
  have w1 := g.w1
  have w4 := g.w4
  have h1 := g.h1
  have h4 := g.h4
  have E3 : Aside0 (wrap64 (w * wrap64 (h + 1)) = w * (h + 1)) := ⟨by
    have e1 : wrap64 (h + 1) = h + 1 := by unfold wrap64; omega
    rw [e1]; unfold wrap64; omega⟩
  have E4 : Aside0 (wrap64 (wrap64 (w + 1) * h) = (((h * (w + 1)).toNat : Nat) : Int)) := ⟨by
    have e2 : wrap64 (w + 1) = w + 1 := by unfold wrap64; omega
    rw [e2, Int.mul_comm]; unfold wrap64; omega⟩
  intro d
  induction d with
  | zero =>
    intro k i q1 q2 q3
    obtain ⟨k, rfl⟩ : ∃ m, k = m + 1 := ⟨k - 1, by omega⟩
    obtain rfl : i = (h * (w + 1)).toNat := by omega
    simp only [spec_sqFigure.l1]
    rw [E4.out, if_neg (by omega)]
    rfl
  | succ d ih =>
    intro k i q1 q2 q3
    obtain ⟨k, rfl⟩ : ∃ m, k = m + 1 := ⟨k - 1, by omega⟩
    have e5 : wrap64 ((i : Int) + 1) = ((i + 1 : Nat) : Int) := by unfold wrap64; omega
    have hl := setL_len i fun i => M.testBit ((w * (h + 1)).toNat + i)
    have hs := setL_succ i fun i => M.testBit ((w * (h + 1)).toNat + i)
    have hb := Aside0.mk (bit_and_i64 HM.out (e := (w * (h + 1)).toNat + i) (step60 (figN_le g).2.1 (figN_le g).2.2 q2))
    simp only [spec_sqFigure.l1]
    rw [E4.out, if_pos (by omega), sqBit_f w h true i E3.out (by omega) (by omega) (by omega), Option.bind_some, if_pos rfl, e5]
    cases ht : M.testBit ((w * (h + 1)).toNat + i) with
    | false =>
      rw [if_pos (hb.out.2 ht)]
      rw [ht, if_neg (by simp), List.append_nil] at hs
      rw [← hs]
      exact ih k (i + 1) (by omega) (by omega) (by omega)
    | true =>
      rw [if_neg (fun h => by rw [hb.out.1 h] at ht; cases ht), if_pos (by omega)]
      rw [ht, if_pos rfl] at hs
      rw [← hs]
      exact ih k (i + 1) (by omega) (by omega) (by omega)
theorem sqFigure_l0 {w h : Int} (g : GridOK w h) {M : Nat} (hM : M < 2 ^ 60) (z0 z1 : Int) : ∀ (d k i : Nat), (w * (h + 1)).toNat - i = d → i ≤ (w * (h + 1)).toNat → d + 30 < k →
    spec_sqFigure.l0 k w h (M : Int) (i : Int) z0 z1 (setL i fun i => M.testBit i) = some (z0, z1, rowA w h M, rowU w h M) := by
  obtain ⟨c1, c2, c3, c4⟩ := area_bounds g.w1 g.w4 g.h1 g.h4
  have HM := Aside0.mk hM
  clear hM
  have w1 := g.w1
  have w4 := g.w4
  have h1 := g.h1
  have h4 := g.h4
  have E3 : Aside0 (wrap64 (w * wrap64 (h + 1)) = w * (h + 1)) := ⟨by
    have e1 : wrap64 (h + 1) = h + 1 := by unfold wrap64; omega
    rw [e1]; unfold wrap64; omega⟩
  have E4 : Aside0 (wrap64 (w * wrap64 (h + 1)) = (((w * (h + 1)).toNat : Nat) : Int)) := ⟨by rw [E3.out]; omega⟩
  intro d
  induction d with
  | zero =>
    intro k i q1 q2 q3
    obtain ⟨k, rfl⟩ : ∃ m, k = m + 1 := ⟨k - 1, by omega⟩
    obtain rfl : i = (w * (h + 1)).toNat := by omega
    simp only [spec_sqFigure.l0]
    rw [E4.out, if_neg (by omega)]
    exact sqFigure_l1 g HM.out z0 z1 _ _ k 0 rfl (by omega) (by omega)
  | succ d ih =>
    intro k i q1 q2 q3
    obtain ⟨k, rfl⟩ : ∃ m, k = m + 1 := ⟨k - 1, by omega⟩
    have e5 : wrap64 ((i : Int) + 1) = ((i + 1 : Nat) : Int) := by unfold wrap64; omega
    have hl := setL_len i fun i => M.testBit i
    have hs := setL_succ i fun i => M.testBit i
    have hb := Aside0.mk (bit_and_i64 HM.out (e := i) (step60' (figN_le g).2.1 q2))
    simp only [spec_sqFigure.l0]
    rw [E4.out, if_pos (by omega), sqBit_f w h false i E3.out (by omega) (by omega) (by omega), Option.bind_some, if_neg (show ¬ (false = true) by decide), Nat.zero_add, e5]
    cases ht : M.testBit i with
    | false =>
      rw [if_pos (hb.out.2 ht)]
      rw [ht, if_neg (by simp), List.append_nil] at hs
      rw [← hs]
      exact ih k (i + 1) (by omega) (by omega) (by omega)
    | true =>
      rw [if_neg (fun h => by rw [hb.out.1 h] at ht; cases ht), if_pos (by omega)]
      rw [ht, if_pos rfl] at hs
      rw [← hs]
      exact ih k (i + 1) (by omega) (by omega) (by omega)
theorem sqFigure_f {w h : Int} (g : GridOK w h) {M : Nat} (hM : M < 2 ^ 60) (k : Nat) (hk : 60 < k) : spec_sqFigure.f k w h (M : Int) = some (w, h, rowA w h M, rowU w h M) := by
  obtain ⟨b1, b2, b3⟩ := figN_le g
  unfold spec_sqFigure.f
  exact sqFigure_l0 g hM w h _ k 0 rfl (by omega) (by omega)
end Go.Proofs.YtjnajeplfgdklaaDoor.P


namespace Go.Proofs.YtjnajeplfgdklaaDoor.P
open Go.RowKit Go.Proofs.YtjnajeplfgdklaaDoorW.PrintWords Go.Proofs.YtjnajeplfgdklaaDoorW.PrintLast Go.Proofs.YtjnajeplfgdklaaDoorW.PrintMore
attribute [local go_sem] max2_int min2_int max_two min_two max_three min_three max_four min_four   -- for this text's walks alone
set_option linter.unusedVariables false
set_option linter.unusedSimpArgs false

def thrB (E : List Nat) (b : Nat) : Nat := (E.filter fun e => (e &&& b != 0)).length
def thrN (E : List Nat) (x b : Nat) : Nat := thrB (E.filter fun e => subE e x) b
theorem thrB_cons (e : Nat) (E : List Nat) (b : Nat) : thrB (e :: E) b = (if (e &&& b != 0) = true then 1 else 0) + thrB E b := by
  unfold thrB
  by_cases h : (e &&& b != 0) = true
  · rw [List.filter_cons_of_pos (p := fun e => (e &&& b != 0)) h, if_pos h, List.length_cons, Nat.add_comm]
  · rw [List.filter_cons_of_neg (p := fun e => (e &&& b != 0)) h, if_neg h, Nat.zero_add]
theorem thrN_cons (e : Nat) (E : List Nat) (x b : Nat) : thrN (e :: E) x b = (if subE e x = true then (if (e &&& b != 0) = true then 1 else 0) else 0) + thrN E x b := by
  unfold thrN
  by_cases h : subE e x = true
  · rw [List.filter_cons_of_pos (p := fun e => subE e x) h, if_pos h, thrB_cons]
  · rw [List.filter_cons_of_neg (p := fun e => subE e x) h, if_neg h, Nat.zero_add]
theorem through_l0 (L : List S95) (E : List Nat) (h : L.map (fun q => q.f3) = E.map (fun n : Nat => (n : Int))) (hl : E.length ≤ 30) (b : Nat) (hb : ∀ e ∈ E, impl_bit.f (Go.bits .and .u64 ((e : Nat) : Int) (b : Int) != 0) = some ((if (e &&& b != 0) = true then 1 else 0 : Nat) : Int)) : ∀ (d k i m : Nat), E.length - i = d → i ≤ E.length → d < k → m ≤ i →
    impl_through.l0 k (b : Int) (m : Int) L (L.length : Int) (i : Int) = some ((m + thrB (E.drop i) b : Nat) : Int) := by
  have hlen : L.length = E.length := by have := congrArg List.length h; simpa using this
  intro d
  induction d with
  | zero =>
    intro k i m h1 h2 h3 h4
    obtain ⟨k, rfl⟩ : ∃ q, k = q + 1 := ⟨k - 1, by omega⟩
    simp only [impl_through.l0]
    rw [if_neg (by omega), List.drop_of_length_le (by omega)]
    rfl
  | succ d ih =>
    intro k i m h1 h2 h3 h4
    obtain ⟨k, rfl⟩ : ∃ q, k = q + 1 := ⟨k - 1, by omega⟩
    have hi : i < E.length := by omega
    obtain ⟨hiL, hat⟩ := map_at h z95 i hi
    have hrd : (rd_T95 L (i : Int)).f3 = ((E[i] : Nat) : Int) := by unfold rd_T95; rw [Int.toNat_natCast]; exact hat
    simp only [impl_through.l0]
    rw [if_pos (by omega), if_pos (by omega), if_pos (by omega), hrd, hb _ (List.getElem_mem hi), Option.bind_some, wrap_i1 i (by omega), List.drop_eq_getElem_cons hi, thrB_cons]
    have hq1 : (if (E[i] &&& b != 0) = true then 1 else 0 : Nat) ≤ 1 := by split <;> omega
    generalize (if (E[i] &&& b != 0) = true then 1 else 0 : Nat) = q at hq1
    have hih := ih k (i + 1) (m + q) (by omega) (by omega) (by omega) (by omega)
    rw [wrap_q m q (by omega) hq1, hih, Nat.add_assoc]
theorem bit_thr {e b : Nat} (he : e < 2 ^ 60) (hb : b < 2 ^ 60) : impl_bit.f (Go.bits .and .u64 ((e : Nat) : Int) (b : Int) != 0) = some ((if (e &&& b != 0) = true then 1 else 0 : Nat) : Int) := by
  rw [and_u64 _ _ he hb]
  unfold impl_bit.f
  by_cases h0 : e &&& b = 0
  · rw [h0]; rfl
  · rw [show (((e &&& b : Nat) : Int) != 0) = true by rw [bne_iff_ne]; exact fun h => h0 (by exact_mod_cast h), show (e &&& b != 0) = true by rw [bne_iff_ne]; exact h0]
    rfl
end Go.Proofs.YtjnajeplfgdklaaDoor.P


namespace Go.Proofs.YtjnajeplfgdklaaDoor.P
open Go.RowKit Go.Proofs.YtjnajeplfgdklaaDoorW.PrintWords Go.Proofs.YtjnajeplfgdklaaDoorW.PrintLast Go.Proofs.YtjnajeplfgdklaaDoorW.PrintMore
attribute [local go_sem] max2_int min2_int max_two min_two max_three min_three max_four min_four   -- for this text's walks alone
set_option linter.unusedVariables false
set_option linter.unusedSimpArgs false

theorem and_neg_i64 (x : Nat) (h0 : x ≠ 0) (hx : x < 2 ^ 60) : Go.bits .and .i64 (x : Int) (-(x : Int)) = ((2 ^ Lib.ctz 64 x : Nat) : Int) := by
  have h60 : (2 : Nat) ^ 60 = 1152921504606846976 := by decide
  have hx2 : x < 2 ^ 64 := Nat.lt_of_lt_of_le hx (by decide)
  obtain ⟨h1, -⟩ := Lib.lowest_bit 64 x h0 hx2
  obtain ⟨h2, -⟩ := low_bits x h0 hx
  have e1 : (BitVec.ofInt 64 (x : Int)).toNat = x := by rw [BitVec.toNat_ofInt]; omega
  have e2 : (BitVec.ofInt 64 (-(x : Int))).toNat = 2 ^ 64 - x := by rw [BitVec.toNat_ofInt]; omega
  have hb : IntKind.i64.bits = 64 := rfl
  unfold Go.bits
  rw [hb]
  show IntKind.i64.wrap ((BitVec.ofInt 64 (x : Int) &&& BitVec.ofInt 64 (-(x : Int))).toNat : Int) = _
  rw [BitVec.toNat_and, e1, e2, h1]
  refine i64_small _ (Int.natCast_nonneg _) ?_
  have h3 := pow_lt60 h2
  have h4 : (2 : Int) ^ 60 = 1152921504606846976 := by decide
  rw [h4]
  omega
theorem filter_lt {α : Type} {p q : α → Bool} : ∀ {l : List α}, (∀ i ∈ l, q i = true → p i = true) → (∃ k ∈ l, p k = true ∧ q k = false) → (l.filter q).length < (l.filter p).length
  | [], _, h => by obtain ⟨k, hk, -⟩ := h; cases hk
  | a :: l, h1, h2 => by
    have hle : (l.filter q).length ≤ (l.filter p).length := by
      clear h2
      induction l with
      | nil => simp
      | cons b l ih =>
        have ih := ih (fun i hi => h1 i (by rcases List.mem_cons.1 hi with rfl | hi; exact List.mem_cons_self; exact List.mem_cons_of_mem _ (List.mem_cons_of_mem _ hi)))
        have hb := h1 b (List.mem_cons_of_mem _ List.mem_cons_self)
        cases hq : q b with
        | false =>
          rw [List.filter_cons_of_neg (by rw [hq]; simp)]
          have := List.filter_cons (p := p) (x := b) (xs := l)
          rw [this]
          split
          · rw [List.length_cons]; omega
          · exact ih
        | true => rw [List.filter_cons_of_pos hq, List.filter_cons_of_pos (hb hq), List.length_cons, List.length_cons]; omega
    have ha := h1 a List.mem_cons_self
    obtain ⟨k, hk, hp, hq⟩ := h2
    cases hqa : q a with
    | true =>
      rw [List.filter_cons_of_pos hqa, List.filter_cons_of_pos (ha hqa), List.length_cons, List.length_cons]
      rcases List.mem_cons.1 hk with rfl | hk
      · rw [hqa] at hq; cases hq
      · have := filter_lt (fun i hi => h1 i (List.mem_cons_of_mem _ hi)) ⟨k, hk, hp, hq⟩
        omega
    | false =>
      rw [List.filter_cons_of_neg (by rw [hqa]; simp)]
      cases hpa : p a with
      | true => rw [List.filter_cons_of_pos hpa, List.length_cons]; omega
      | false =>
        rw [List.filter_cons_of_neg (by rw [hpa]; simp)]
        rcases List.mem_cons.1 hk with rfl | hk
        · rw [hpa] at hp; cases hp
        · exact filter_lt (fun i hi => h1 i (List.mem_cons_of_mem _ hi)) ⟨k, hk, hp, hq⟩
theorem bitsN_less {M k : Nat} (hk : k < 64) (h : M.testBit k = true) : (bitsN (diffN M (2 ^ k))).length < (bitsN M).length := by
  unfold bitsN
  refine filter_lt (fun i _ hi => ?_) ⟨k, List.mem_range.2 hk, h, ?_⟩
  · rw [diffN_test, Bool.and_eq_true] at hi; exact hi.1
  · rw [diffN_test, Nat.testBit_two_pow]; simp
def pickG (E : List Nat) (M : Nat) (l : List Nat) (s : Nat × Nat) : Nat × Nat := l.foldl (fun s k => if thrN E M (2 ^ k) > s.2 then (2 ^ k, thrN E M (2 ^ k)) else s) s
theorem pickG_cons (E : List Nat) (M k : Nat) (l : List Nat) (s : Nat × Nat) : pickG E M (k :: l) s = pickG E M l (if thrN E M (2 ^ k) > s.2 then (2 ^ k, thrN E M (2 ^ k)) else s) := by unfold pickG; rw [List.foldl_cons]
theorem pickG_of (E : List Nat) (M : Nat) : ∀ (l : List Nat) (s : Nat × Nat), (pickG E M l s = s ∧ ∀ k ∈ l, thrN E M (2 ^ k) ≤ s.2) ∨ ∃ k ∈ l, (pickG E M l s).1 = 2 ^ k
  | [], s => .inl ⟨rfl, fun k hk => by cases hk⟩
  | a :: l, s => by
    rw [pickG_cons]
    by_cases h : thrN E M (2 ^ a) > s.2
    · rw [if_pos h]
      rcases pickG_of E M l (2 ^ a, thrN E M (2 ^ a)) with ⟨h1, -⟩ | ⟨k, hk, h1⟩
      · exact .inr ⟨a, List.mem_cons_self, by rw [h1]⟩
      · exact .inr ⟨k, List.mem_cons_of_mem _ hk, h1⟩
    · rw [if_neg h]
      rcases pickG_of E M l s with ⟨h1, h2⟩ | ⟨k, hk, h1⟩
      · exact .inl ⟨h1, fun k hk => by rcases List.mem_cons.1 hk with rfl | hk; omega; exact h2 k hk⟩
      · exact .inr ⟨k, List.mem_cons_of_mem _ hk, h1⟩
theorem pickG_some {E : List Nat} (hE : ∀ e ∈ E, e < 2 ^ 60) (hpos : ∀ e ∈ E, e ≠ 0) {M : Nat} (hM : ∀ k, M.testBit k = true → k < 60) (hc : cntN E M ≠ 0) : ∃ k, k < 60 ∧ M.testBit k = true ∧ (pickG E M (bitsN M) (0, 0)).1 = 2 ^ k := by
  have hm : ∀ k ∈ bitsN M, k < 64 ∧ M.testBit k = true := fun k hk => by
    unfold bitsN at hk
    rw [List.mem_filter, List.mem_range] at hk
    exact hk
  have hex : ∃ e ∈ E, subE e M = true := by
    unfold cntN at hc
    cases hl : E.filter (fun e => subE e M) with
    | nil => rw [hl] at hc; simp at hc
    | cons e l =>
      have : e ∈ E.filter (fun e => subE e M) := by rw [hl]; exact List.mem_cons_self
      rw [List.mem_filter] at this
      exact ⟨e, this⟩
  obtain ⟨e, he, hs⟩ := hex
  obtain ⟨h1, h2, -⟩ := low_bits e (hpos e he) (hE e he)
  have hMk := subE_test.1 hs _ h2
  have hin : Lib.ctz 64 e ∈ bitsN M := by unfold bitsN; rw [List.mem_filter, List.mem_range]; exact ⟨by omega, hMk⟩
  have hthr : thrN E M (2 ^ Lib.ctz 64 e) ≠ 0 := by
    unfold thrN thrB
    intro h0
    rw [List.length_eq_zero_iff, List.filter_eq_nil_iff] at h0
    refine h0 e (by rw [List.mem_filter]; exact ⟨he, hs⟩) ?_
    have := and_two (Lib.ctz 64 e) e
    rw [Nat.and_comm, if_pos h2] at this
    rw [this, bne_iff_ne]
    have := Nat.two_pow_pos (Lib.ctz 64 e)
    omega
  rcases pickG_of E M (bitsN M) (0, 0) with ⟨-, h3⟩ | ⟨k, hk, h3⟩
  · exact absurd (Nat.le_zero.1 (h3 _ hin)) hthr
  · refine ⟨k, hM k (hm k hk).2, (hm k hk).2, h3⟩
theorem bit60 {M : Nat} (hM : M < 2 ^ 60) (k : Nat) (h : M.testBit k = true) : k < 60 := by
  rcases Nat.lt_or_ge k 60 with h1 | h1
  · exact h1
  · rw [Nat.testBit_lt_two_pow (Nat.lt_of_lt_of_le hM (Nat.pow_le_pow_right (by decide) h1))] at h; cases h
theorem greedyS_l2 {PL : List S73} {E : List Nat} (h : PL.map (fun q => q.f3) = E.map (fun n : Nat => (n : Int))) (hl : E.length ≤ 30) (x b : Nat) (hb : ∀ e ∈ E, Go.bits .and .i64 (x : Int) ((e : Nat) : Int) = ((x &&& e : Nat) : Int)) (hc : ∀ e ∈ E, Go.bits .and .i64 ((e : Nat) : Int) (b : Int) = ((e &&& b : Nat) : Int)) (best most bits z0 z1 : Int) (z2 z3 : List Int) (K : Nat) : ∀ (d i m : Nat), E.length - i = d → i ≤ E.length → m ≤ i →
    spec_GreedyTake.l2 (K + d + 1) PL (x : Int) best most bits (b : Int) (m : Int) PL (PL.length : Int) (i : Int) z0 z1 z2 z3 =
      if ((m + thrN (E.drop i) x b : Nat) : Int) > most then spec_GreedyTake.l1 K PL (x : Int) (b : Int) ((m + thrN (E.drop i) x b : Nat) : Int) (Go.bits .and .i64 bits (wrap64 (bits - 1))) z0 z1 z2 z3 else spec_GreedyTake.l1 K PL (x : Int) best most (Go.bits .and .i64 bits (wrap64 (bits - 1))) z0 z1 z2 z3 := by
  have hlen : PL.length = E.length := by have := congrArg List.length h; simpa using this
  intro d
  induction d with
  | zero =>
    intro i m h1 h2 h3
    have h0 : thrN (E.drop i) x b = 0 := by rw [List.drop_of_length_le (by omega)]; rfl
    rw [h0]
    simp only [spec_GreedyTake.l2]
    rw [if_neg (by omega)]
    rfl
  | succ d ih =>
    intro i m h1 h2 h3
    have hi : i < E.length := by omega
    obtain ⟨hiL, hat⟩ := map_at h z73 i hi
    have hrd : (rd_T73 PL (i : Int)).f3 = ((E[i] : Nat) : Int) := by unfold rd_T73; rw [Int.toNat_natCast]; exact hat
    rw [show K + (d + 1) + 1 = (K + d + 1) + 1 by omega]
    rw [spec_GreedyTake.l2]
    rw [if_pos (by omega), if_pos (by omega), if_pos (by omega), hrd, hb _ (List.getElem_mem hi), hc _ (List.getElem_mem hi), wrap_i1 i (by omega), List.drop_eq_getElem_cons hi, thrN_cons]
    by_cases hs : subE E[i] x = true
    · rw [if_pos (by rw [(subE_and _ _).1 hs]), if_pos hs]
      by_cases hz : E[i] &&& b = 0
      · have hq : (if (E[i] &&& b != 0) = true then (1 : Nat) else 0) = 0 := if_neg (by rw [hz]; decide)
        rw [if_pos (by rw [hz]; rfl), hq, ih (i + 1) m (by omega) (by omega) (by omega), Nat.zero_add]
      · have hq : (if (E[i] &&& b != 0) = true then (1 : Nat) else 0) = 1 := if_pos (bne_iff_ne.2 hz)
        rw [if_neg (fun h => hz (by exact_mod_cast h)), hq, wrap_i1 m (by omega), ih (i + 1) (m + 1) (by omega) (by omega) (by omega), Nat.add_assoc]
    · rw [if_neg (fun h => hs ((subE_and _ _).2 (by exact_mod_cast h))), if_neg hs, ih (i + 1) m (by omega) (by omega) (by omega), Nat.zero_add]
theorem wrap_neg (B : Nat) (h : (B : Int) < 1152921504606846976) : wrap64 (-(B : Int)) = -(B : Int) := by unfold wrap64; omega
theorem wrap_pred (B : Nat) (h : (B : Int) < 1152921504606846976) (h0 : B ≠ 0) : wrap64 ((B : Int) - 1) = ((B - 1 : Nat) : Int) := by unfold wrap64; omega
theorem lit60 {B : Nat} (h : B < 2 ^ 60) : (B : Int) < 1152921504606846976 := by
  have h2 : (2 : Nat) ^ 60 = 1152921504606846976 := by decide
  rw [h2] at h
  omega
theorem greedyS_l1 {PL : List S73} {E : List Nat} (h : PL.map (fun q => q.f3) = E.map (fun n : Nat => (n : Int))) (hE : ∀ e ∈ E, e < 2 ^ 60) (hl : E.length ≤ 30) (x : Nat) (hx : x < 2 ^ 60) (z0 z1 : Int) (z2 z3 : List Int) (K : Nat) : ∀ (n B : Nat) (s : Nat × Nat), (bitsN B).length = n → B < 2 ^ 60 → s.1 < 2 ^ 60 →
    spec_GreedyTake.l1 (K + n * (E.length + 2) + 1) PL (x : Int) (s.1 : Int) (s.2 : Int) (B : Int) z0 z1 z2 z3 = spec_GreedyTake.l0 K PL ((diffN x (pickG E x (bitsN B) s).1 : Nat) : Int) z0 z1 z2 z3 := by
  intro n
  induction n with
  | zero =>
    intro B s h1 h2 h3
    have hB : B = 0 := by
      rcases Nat.eq_zero_or_pos B with h0 | h0
      · exact h0
      · rw [bitsN_step B (by omega) h2] at h1; simp at h1
    subst hB
    rw [bitsN_zero, show K + 0 * (E.length + 2) + 1 = K + 1 by omega, spec_GreedyTake.l1, if_pos (show ((0 : Nat) : Int) = 0 from rfl), andNot_i64 _ _ hx h3]
    rfl
  | succ n ih =>
    intro B s h1 h2 h3
    have hB : B ≠ 0 := by rintro rfl; rw [bitsN_zero] at h1; simp at h1
    obtain ⟨q1, q2, -, -, q5⟩ := low_bits B hB h2
    have hst := bitsN_step B hB h2
    have hlen : (bitsN (B &&& (B - 1))).length = n := by rw [hst, List.length_cons] at h1; omega
    have hfuel : K + (n + 1) * (E.length + 2) + 1 = ((K + n * (E.length + 2) + 1) + E.length + 1) + 1 := by rw [Nat.succ_mul]; omega
    have hp := pow_lt60 q1
    have hB1 : B - 1 < 2 ^ 60 := Nat.lt_of_le_of_lt (Nat.sub_le _ _) h2
    rw [hfuel, spec_GreedyTake.l1, if_neg (by exact_mod_cast hB), wrap_neg B (lit60 h2), and_neg_i64 B hB h2]
    have r := greedyS_l2 h hl x (2 ^ Lib.ctz 64 B) (fun e he => and_i64 _ _ hx (hE e he)) (fun e he => and_i64 _ _ (hE e he) hp) (s.1 : Int) (s.2 : Int) (B : Int) z0 z1 z2 z3 (K + n * (E.length + 2) + 1) E.length 0 0 rfl (Nat.zero_le _) (Nat.le_refl _)
    rw [List.drop_zero, Nat.zero_add, wrap_pred B (lit60 h2) hB, and_i64 _ _ h2 hB1, Int.natCast_zero] at r
    rw [r, hst, pickG_cons]
    by_cases hgt : thrN E x (2 ^ Lib.ctz 64 B) > s.2
    · rw [if_pos (by exact_mod_cast hgt), if_pos hgt]
      exact ih (B &&& (B - 1)) (2 ^ Lib.ctz 64 B, thrN E x (2 ^ Lib.ctz 64 B)) hlen (Nat.lt_of_le_of_lt Nat.and_le_left h2) hp
    · rw [if_neg (fun hh => hgt (by exact_mod_cast hh)), if_neg hgt]
      exact ih (B &&& (B - 1)) s hlen (Nat.lt_of_le_of_lt Nat.and_le_left h2) h3
theorem greedyI_l1 {L : List S95} {E : List Nat} (x : Nat) (h : L.map (fun q => q.f3) = (E.filter fun e => subE e x).map (fun n : Nat => (n : Int))) (hE : ∀ e ∈ E, e < 2 ^ 60) (hl : E.length ≤ 30) (hx : x < 2 ^ 60) (z0 z1 : Int) (z2 z3 : List Int) (l : List Nat) (hll : l.length ≤ 64) (hl60 : ∀ k ∈ l, k < 60) (K : Nat) (hK : 40 ≤ K) : ∀ (d i : Nat) (s : Nat × Nat), l.length - i = d → i ≤ l.length → s.1 < 2 ^ 60 →
    impl_GreedyTake.l1 (K + d + 1) (x : Int) L (s.1 : Int) (s.2 : Int) (l.map fun n : Nat => (n : Int)) ((l.map fun n : Nat => (n : Int)).length : Int) (i : Int) z0 z1 z2 z3 = impl_GreedyTake.l0 K ((diffN x (pickG E x (l.drop i) s).1 : Nat) : Int) z0 z1 z2 z3 := by
  have hll2 : (l.map fun n : Nat => (n : Int)).length = l.length := List.length_map _
  have hfl : (E.filter fun e => subE e x).length ≤ 30 := Nat.le_trans (List.length_filter_le _ _) hl
  intro d
  induction d with
  | zero =>
    intro i s h1 h2 h3
    rw [Nat.add_zero, impl_GreedyTake.l1, hll2, if_neg (by omega), andNot_u64 _ _ hx h3, List.drop_of_length_le (by omega)]
    rfl
  | succ d ih =>
    intro i s h1 h2 h3
    have hi : i < l.length := by omega
    have hrd : rd (l.map fun n : Nat => (n : Int)) (i : Int) = ((l[i] : Nat) : Int) := by
      rw [rd_nat _ _ (by rw [hll2]; exact hi), List.getElem_map]
    have h60 := hl60 _ (List.getElem_mem hi)
    have hp := pow_lt60 h60
    have hthr : impl_through.f (K + d + 1) L ((2 ^ l[i] : Nat) : Int) = some ((thrN E x (2 ^ l[i]) : Nat) : Int) := by
      unfold impl_through.f
      have := through_l0 L (E.filter fun e => subE e x) h hfl (2 ^ l[i]) (fun e he => bit_thr (hE e (List.mem_filter.1 he).1) hp) (E.filter fun e => subE e x).length (K + d + 1) 0 0 rfl (Nat.zero_le _) (by omega) (Nat.le_refl _)
      rw [List.drop_zero, Nat.zero_add] at this
      exact this
    rw [show K + (d + 1) + 1 = (K + d + 1) + 1 by omega, impl_GreedyTake.l1, if_pos (by rw [hll2]; omega), if_pos (by omega), if_pos (by rw [hll2]; omega), hrd, if_pos (Int.natCast_nonneg _), shl_u64 _ h60, hthr, Option.bind_some, wrap_i1 i (by omega), List.drop_eq_getElem_cons hi, pickG_cons]
    by_cases hgt : thrN E x (2 ^ l[i]) > s.2
    · rw [if_pos (by exact_mod_cast hgt), if_pos hgt]
      exact ih (i + 1) (2 ^ l[i], thrN E x (2 ^ l[i])) (by omega) (by omega) hp
    · rw [if_neg (fun hh => hgt (by exact_mod_cast hh)), if_neg hgt]
      exact ih (i + 1) s (by omega) (by omega) h3
theorem greedy_step {n K Q m : Nat} (h : (n + 1) * 3000 + 1000 < K + 1) (hK : K = Q + m + 1) (hm : m ≤ 64 * 32) : n * 3000 + 1000 < Q := by
  rw [Nat.succ_mul] at h
  subst hK
  have h2 : m ≤ 2048 := hm
  clear hm
  generalize n * 3000 = z at h ⊢
  omega
theorem greedy_main {w h : Int} (g : GridOK w h) {L : List S95} {PL : List S73} {E : List Nat} (k0 : Nat) (hL : ∀ k, 200 ≤ k → impl_grid_squares.f k w h = some L) (hLE : L.map (fun q => q.f3) = E.map (fun n : Nat => (n : Int))) (hPE : PL.map (fun q => q.f3) = E.map (fun n : Nat => (n : Int))) (hE : ∀ e ∈ E, e < 2 ^ 60) (hl : E.length ≤ 30) (hpos : ∀ e ∈ E, e ≠ 0) (z2 z3 : List Int) : ∀ (n M K1 K2 : Nat), (bitsN M).length ≤ n → M < 2 ^ figN w h → n * 3000 + 1000 < K1 → n * 3000 + 1000 < K2 →
    ∃ N, spec_GreedyTake.l0 K1 PL (M : Int) w h z2 z3 = some (w, h, rowA w h N, rowU w h N, true) ∧ impl_GreedyTake.l0 K2 (M : Int) w h z2 z3 = some (w, h, rowA w h N, rowU w h N, true) := by
  have hLl : L.length ≤ 30 := by have := congrArg List.length hLE; simp at this; omega
  intro n
  induction n with
  | zero =>
    intro M K1 K2 h1 h2 h3 h4
    have hM60 := pow_figN g h2
    obtain ⟨K1, rfl⟩ : ∃ q, K1 = q + 1 := ⟨K1 - 1, by omega⟩
    obtain ⟨K2, rfl⟩ : ∃ q, K2 = q + 1 := ⟨K2 - 1, by omega⟩
    have hM : M = 0 := by
      rcases Nat.eq_zero_or_pos M with h0 | h0
      · exact h0
      · rw [bitsN_step M (by omega) hM60] at h1; simp at h1
    have hc : cntN E M = 0 := by
      rcases Nat.eq_zero_or_pos (cntN E M) with h0 | h0
      · exact h0
      · obtain ⟨k, -, hk, -⟩ := pickG_some hE hpos (bit60 hM60) (M := M) (by omega)
        rw [hM, Nat.zero_testBit] at hk; cases hk
    obtain ⟨L', o1, o2, -⟩ := of_f hLE hE hLl M hM60
    have hL0 : L'.length = 0 := by have := congrArg List.length o2; rw [List.length_map, List.length_map] at this; unfold cntN at hc; omega
    refine ⟨M, ?_, ?_⟩
    · rw [spec_GreedyTake.l0, sqCount_f hPE hE hl M hM60 _ (by omega), Option.bind_some, hc, if_neg (by decide), sqFigure_f g hM60 _ (by omega), Option.bind_some]
    · rw [impl_GreedyTake.l0]
      unfold impl_Figure_grid.f
      rw [Option.bind_some, hL _ (by omega), Option.bind_some, o1, Option.bind_some, if_pos (by rw [hL0]; rfl), Option.bind_some, figure_f g h2, Option.bind_some]
  | succ n ih =>
    intro M K1 K2 h1 h2 h3 h4
    have hM60 := pow_figN g h2
    obtain ⟨K1, rfl⟩ : ∃ q, K1 = q + 1 := ⟨K1 - 1, by omega⟩
    obtain ⟨K2, rfl⟩ : ∃ q, K2 = q + 1 := ⟨K2 - 1, by omega⟩
    obtain ⟨L', o1, o2, -⟩ := of_f hLE hE hLl M hM60
    have hLL : L'.length = cntN E M := by have := congrArg List.length o2; rw [List.length_map, List.length_map] at this; unfold cntN; omega
    by_cases hc : cntN E M = 0
    · refine ⟨M, ?_, ?_⟩
      · rw [spec_GreedyTake.l0, sqCount_f hPE hE hl M hM60 _ (by omega), Option.bind_some, hc, if_neg (by decide), sqFigure_f g hM60 _ (by omega), Option.bind_some]
      · rw [impl_GreedyTake.l0]
        unfold impl_Figure_grid.f
        rw [Option.bind_some, hL _ (by omega), Option.bind_some, o1, Option.bind_some, if_pos (by rw [hLL, hc]; rfl), Option.bind_some, figure_f g h2, Option.bind_some]
    · obtain ⟨k, k1, k2, k3⟩ := pickG_some hE hpos (bit60 hM60) hc
      have hless := bitsN_less (show k < 64 by omega) k2
      have hlenM := bitsN_len M
      have hb60 : ∀ q ∈ bitsN M, q < 60 := fun q hq => bit60 hM60 q (by unfold bitsN at hq; rw [List.mem_filter] at hq; exact hq.2)
      have hmul : (bitsN M).length * (E.length + 2) ≤ 64 * 32 := Nat.mul_le_mul hlenM (by omega)
      obtain ⟨Q1, hQ1⟩ : ∃ q, K1 = q + (bitsN M).length * (E.length + 2) + 1 := ⟨K1 - ((bitsN M).length * (E.length + 2) + 1), by omega⟩
      obtain ⟨Q2, hQ2⟩ : ∃ q, K2 = q + (bitsN M).length + 1 := ⟨K2 - ((bitsN M).length + 1), by omega⟩
      have hd := diffN_lt (2 ^ k) h2
      obtain ⟨N, n1, n2⟩ := ih (diffN M (2 ^ k)) Q1 Q2 (Nat.le_of_lt_succ (Nat.lt_of_lt_of_le hless h1)) hd (greedy_step h3 hQ1 hmul) (greedy_step h4 hQ2 (Nat.le_trans hlenM (by decide)))
      refine ⟨N, ?_, ?_⟩
      · have r := greedyS_l1 hPE hE hl M hM60 w h z2 z3 Q1 (bitsN M).length M (0, 0) rfl hM60 (by decide)
        rw [k3, n1] at r
        rw [spec_GreedyTake.l0, sqCount_f hPE hE hl M hM60 _ (by omega), Option.bind_some, if_pos (by omega), hQ1]
        exact r
      · have r := greedyI_l1 M o2 hE hl hM60 w h z2 z3 (bitsN M) hlenM hb60 Q2 (by omega) (bitsN M).length 0 (0, 0) rfl (Nat.zero_le _) (by decide)
        rw [List.drop_zero, k3, n2] at r
        have hli : impl_set_listed.f (M : Int) = some ((bitsN M).map fun n : Nat => (n : Int)) := listed_setL hM60
        rw [impl_GreedyTake.l0]
        unfold impl_Figure_grid.f
        rw [Option.bind_some, hL _ (by omega), Option.bind_some, o1, Option.bind_some, if_neg (by rw [hLL]; omega), hli, Option.bind_some, hQ2]
        exact r
def sqsPos (w h : Nat) : Bool := match impl_grid_squares.f 200 (w : Int) (h : Int) with | some L => L.all (fun q => decide (0 < q.f3)) | none => false
theorem sqp_all : ((List.range 4).all fun a => (List.range 4).all fun b => sqsPos (a + 1) (b + 1)) = true := by decide +kernel
theorem sqsPos_of (w h : Nat) (h1 : 1 ≤ w) (h2 : w ≤ 4) (h3 : 1 ≤ h) (h4 : h ≤ 4) : sqsPos w h = true := by
  have h5 := List.all_eq_true.1 (List.all_eq_true.1 sqp_all (w - 1) (List.mem_range.2 (by omega))) (h - 1) (List.mem_range.2 (by omega))
  rw [show w - 1 + 1 = w by omega, show h - 1 + 1 = h by omega] at h5
  exact h5
theorem greedy_fuel {K : Nat} (h : 200000 < K) : 64 * 3000 + 1000 < K := by omega
theorem GreedyTake_pure {w h : Int} {a u : List Int} (ha : a.length ≤ 1000000) (hu : u.length ≤ 1000000) : ∃ r0 r1 L2 L3 r2, spec_GreedyTake.f 4000001 w h a u = some (r0, r1, L2, L3, r2) ∧ impl_GreedyTake.f 4000001 w h a u = some (r0, r1, L2, L3, r2) ∧ L2.length + L3.length ≤ 1000000 := by
  cases hf : figB w h a u with
  | false =>
    refine ⟨0, 0, [], [], false, ?_, ?_, by simp⟩
    · unfold spec_GreedyTake.f
      rw [fiGood_f w h a u ha hu _ (by decide), hf, Option.bind_some, if_neg (by simp)]
    · unfold impl_GreedyTake.f
      rw [IsFigure_f w h a u ha hu _ (by decide), hf, Option.bind_some, if_neg (by simp)]
  | true =>
    have g := gridOK_of hf
    have hM := figMask_figN hf
    have hM60 := figMask_lt hf
    obtain ⟨L, PL, E, hL, hP, hLE, hPE, hE, hl⟩ := squares_f g.w1 g.w4 g.h1 g.h4 200 (by decide)
    have hEl : E.length ≤ 30 := by have := congrArg List.length hLE; simp at this; omega
    have hpos : ∀ e ∈ E, e ≠ 0 := by
      have hp := sqsPos_of w.toNat h.toNat (by have := g.w1; omega) (by have := g.w4; have := g.w1; omega) (by have := g.h1; omega) (by have := g.h4; have := g.h1; omega)
      unfold sqsPos at hp
      rw [Int.toNat_of_nonneg (by have := g.w1; omega), Int.toNat_of_nonneg (by have := g.h1; omega), hL] at hp
      simp only [List.all_eq_true, decide_eq_true_eq] at hp
      intro e he h0
      have : ((e : Nat) : Int) ∈ L.map (fun q => q.f3) := by rw [hLE]; exact List.mem_map.2 ⟨e, he, rfl⟩
      obtain ⟨q, hq, hqe⟩ := List.mem_map.1 this
      have := hp q hq
      omega
    have hup : ∀ k, 200 ≤ k → impl_grid_squares.f k w h = some L := fun k hk => up_rounds (fun k => impl_grid_squares.mono _ _ k) hk hL
    have hPk : spec_sqAll.f 4000001 w h = some PL := up_rounds (fun k => spec_sqAll.mono _ _ k) (by decide) hP
    obtain ⟨N, n1, n2⟩ := greedy_main g 0 hup hLE hPE hE hEl hpos a u 64 (figMask w h a u) 4000001 4000001 (bitsN_len _) hM (greedy_fuel (by decide)) (greedy_fuel (by decide))
    refine ⟨w, h, rowA w h N, rowU w h N, true, ?_, ?_, by have := rowA_len g N; have := rowU_len g N; omega⟩
    · unfold spec_GreedyTake.f
      rw [fiGood_f w h a u ha hu _ (by decide), hf, Option.bind_some, if_pos rfl, hPk, Option.bind_some, sqMask_f hf ha hu _ (by decide), Option.bind_some]
      exact n1
    · unfold impl_GreedyTake.f
      rw [IsFigure_f w h a u ha hu _ (by decide), hf, Option.bind_some, if_pos rfl, set_f hf ha hu _ (by decide), Option.bind_some]
      exact n2

end Go.Proofs.YtjnajeplfgdklaaDoor.P


/- What the row's listed variable, math/bits' table, gives a walk; a world in which it is laid. -/
namespace Go.Proofs.YtjnajeplfgdklaaDoor.Laid
open Go.RowKit
theorem mapM_at {α β : Type} {f : α → Option β} : ∀ {l : List α} {xs : List β}, l.mapM f = some xs → ∀ (j : Nat) (x : α), l[j]? = some x → ∃ y, xs[j]? = some y ∧ f x = some y
  | [], xs, _, j, x, hj => by simp at hj
  | a :: l, xs, h, j, x, hj => by
    rw [List.mapM_cons] at h
    obtain ⟨y, hy, h⟩ := Option.bind_eq_some_iff.1 h
    obtain ⟨ys, hys, h⟩ := Option.bind_eq_some_iff.1 h
    obtain rfl := Option.some.inj h
    cases j with
    | zero => simp at hj; subst hj; exact ⟨y, rfl, hy⟩
    | succ j => exact mapM_at hys j x (by simpa using hj)
theorem int_of_trod {H : Type} {enc : TypeId × Value → H} {P : Program} {w : World} {base : Nat} {sp : Nat → Bool} {held : Bool} {fuel : Nat} {t : TypeId} {k : IntKind} {c : Value} {y : DataW H × List MemPlace}
    (ht : P.underlying t = some (.int k)) (h : DataW.trod enc P w base sp held fuel t [c] = some y) : ∃ n, c = .int k n ∧ y = (.lit (.int k n), []) := by
  cases fuel with
  | zero => simp [DataW.trod] at h
  | succ fuel =>
    cases c <;> simp [DataW.trod, ht] at h
    rename_i k' n
    obtain ⟨⟨rfl, _⟩, rfl⟩ := h
    exact ⟨n, rfl, rfl⟩
theorem bytes_of_trod {H : Type} {enc : TypeId × Value → H} {P : Program} {w : World} {base : Nat} {sp : Nat → Bool} {held : Bool} {fuel n : Nat} {t e : TypeId} {l : List Value} {tab : List Nat} {ps : List MemPlace} (ht : P.underlying t = some (.array n e)) (he : P.underlying e = some (.int .u8)) (h1 : P.cellsOf t = n) (h2 : P.cellsOf e = 1)
    (h : DataW.trod enc P w base sp held fuel t l = some (.agg (tab.map fun k : Nat => .lit (.int .u8 (k : Int))), ps)) (j : Nat) (hj : j < n) : l[j]? = some (.int .u8 ((tab.getD j 0 : Nat) : Int)) := by
  cases fuel with
  | zero => simp [DataW.trod] at h
  | succ fuel =>
    simp only [DataW.trod, ht, h1, h2] at h
    split at h
    · rename_i hl
      obtain ⟨xs, hxs, hy⟩ := Option.map_eq_some_iff.1 h
      obtain ⟨y, hyj, hf⟩ := mapM_at hxs j j (by rw [List.getElem?_range hj])
      obtain ⟨c, hc⟩ : ∃ c, l[j]? = some c := ⟨l[j]'(by omega), List.getElem?_eq_getElem _⟩
      rw [Nat.mul_one, show (l.drop j).take 1 = [c] from by rw [List.drop_eq_getElem_cons (by omega)]; rw [List.getElem?_eq_getElem (by omega)] at hc; injection hc with hc; rw [hc]; rfl] at hf
      obtain ⟨m, rfl, rfl⟩ := int_of_trod he hf
      have h3 := (Prod.mk.inj hy).1
      injection h3 with h3
      have h4 := congrArg (fun q => q[j]?) h3
      simp only [List.getElem?_map, hyj, Option.map_some] at h4
      rw [hc, List.getD_eq_getElem?_getD]
      cases ht2 : tab[j]? with
      | none => rw [ht2] at h4; cases h4
      | some q =>
        rw [ht2] at h4
        simp at h4
        rw [h4]; rfl
    · cases h
theorem gnum : Tryd.prog.globalNamed "math/bits.deBruijn64tab" = some 0 := by kernel_rfl
theorem gtype : (Tryd.prog.globals[0]?).map (·.type) = some 113 := by kernel_rfl
theorem cellsT : Tryd.prog.cellsOf 113 = 64 := by kernel_rfl
theorem cellsE : Tryd.prog.cellsOf 5 = 1 := by kernel_rfl
theorem tabIs : (Rows.laid_math_bits_deBruijn64tab : DataW Unit) = .agg (Lib.deBruijn64tab.map fun k => .lit (.int .u8 ((k : Nat) : Int))) := by rfl
theorem plain (w : World) : laidMetH Tryd.prog [("math/bits.deBruijn64tab", Rows.laid_math_bits_deBruijn64tab)] w → laidMet Tryd.prog [("math/bits.deBruijn64tab", Rows.laid_math_bits_deBruijn64tab)] w := fun h => h
theorem tb {W : World} (h : laidMetH Tryd.prog [("math/bits.deBruijn64tab", Rows.laid_math_bits_deBruijn64tab)] W) : P.TB W := by
  obtain ⟨ps, ⟨g, t, cs, fuel, p, q, hg, ht, hvar, hd, _, _⟩, _⟩ := plain W h
  obtain rfl := Option.some.inj (gnum.symm.trans hg)
  obtain rfl := Option.some.inj (gtype.symm.trans ht)
  intro j hj
  rw [World.var?_cell hg hvar j]
  rw [tabIs] at hd
  have := bytes_of_trod Tryd.underlying113 Tryd.underlying5 cellsT cellsE hd j hj
  rw [← Array.getElem?_toList]
  exact this
def cells64 : Array Value := (Lib.deBruijn64tab.map fun k => Value.int .u8 ((k : Nat) : Int)).toArray
noncomputable def laidWorld (os : Os) : World :=
  { World.holding Tryd.prog os ⟨#[], #[], []⟩ with heap := (World.holding Tryd.prog os ⟨#[], #[], []⟩).heap.modify 0 fun
      | .cells _ t frozen => .cells cells64 t frozen
      | o => o }
set_option maxRecDepth 100000 in
theorem laidWorld_met (os : Os) (args : Array Value) : laidMetH Tryd.prog [("math/bits.deBruijn64tab", Rows.laid_math_bits_deBruijn64tab)] ((laidWorld os).forCall (fun _ _ => 0) ⟨#[], args, []⟩).memory :=
  laidMetH_of_parts (laidMet_of_run' 8 (by kernel_rfl) (by kernel_rfl)) (by kernel_rfl)
end Go.Proofs.YtjnajeplfgdklaaDoor.Laid


namespace Go.Proofs.YtjnajeplfgdklaaDoor.fnExactGreedyTake
open Go.ChangeShapes Go.WideShapes Go.ChangeAt Go.RowKit Go.Proofs.YtjnajeplfgdklaaDoorW.PrintWords Go.Joins
set_option linter.unusedVariables false
theorem own : ownKnob Tryd.prog.godebug = none := Closed.own
theorem laidOut : laidOutB Tryd.prog = true := Closed.laidOut
def IsRow (k : IntKind) (w : World) (a : Option Addr) (len cap : Nat) (zs : List Int) : Prop :=
  (a = none ∧ len = 0 ∧ cap = 0 ∧ zs = []) ∨
  ∃ x, a = some x ∧ len ≤ cap ∧ cap ≤ maxLen ∧ zs.length = cap ∧ (∀ i, i < zs.length → w.cell? (x.add i) = some (.int k (zs.getD i 0))) ∧ ∀ n ∈ zs, (Lit.int k n).wf = true
theorem opened {H : Type} {enc : TypeId × Value → H} {W : World} {m : Nat} {c : Value} {y : DataW H × List MemPlace} (hy : DataW.trod enc Tryd.prog W 0 (fun _ => true) true m 22 [c] = some y) :
    ∃ a len cap zs, c = .slice a len cap ∧ IsRow .i64 W a len cap zs := by
  rcases open_ints Tryd.underlying22 Tryd.underlying3 (by kernel_rfl) hy with ⟨hcs, _⟩ | ⟨x, l, c, zs, hcs, _, hl, hm, hz, _, hcell, hwz⟩
  · simp at hcs
    exact ⟨none, 0, 0, [], hcs, .inl ⟨rfl, rfl, rfl, rfl⟩⟩
  · simp at hcs
    exact ⟨some x, l, c, zs, hcs, .inr ⟨_, rfl, hl, hm, by simpa using hz, hcell, hwz⟩⟩
theorem walk (a b : Int) (A2 : Option Addr) (n2 c2 : Nat) (z2 : List Int) (A3 : Option Addr) (n3 c3 : Nat) (z3 : List Int)  (w : World) (w2 : IsRow .i64 w A2 n2 c2 z2) (w3 : IsRow .i64 w A3 n3 c3 z3) (y2 : n2 * 8 ≤ 140737488351232) (y3 : n3 * 8 ≤ 140737488351232) (hT : P.TB w) :
    Calls Tryd.prog 8 #[.agg #[.int .i64 a, .int .i64 b, .slice A2 n2 c2, .slice A3 n3 c3]] w fun e w' => e = .returned (.bool true) ∧ Below w.heap.size w w' := by
  obtain ⟨l2, rfl, hr2, hm2, hw2, hc2⟩ := ReadsInt.ofRowC w2
  obtain ⟨l3, rfl, hr3, hm3, hw3, hc3⟩ := ReadsInt.ofRowC w3
  have k2 := Kd.C_of_reads (d := (0 : Int)) (h1 := fun _ => rfl) hr2
  have k3 := Kd.C_of_reads (d := (0 : Int)) (h1 := fun _ => rfl) hr3
  by_cases hbig : l2.length + l3.length ≤ 1000000
  · have b2 : l2.length ≤ 1000000 := Nat.le_trans (Nat.le_add_right _ _) hbig
    have b3 : l3.length ≤ 1000000 := Nat.le_trans (Nat.le_add_left _ _) hbig
    obtain ⟨r0, r1, L2, L3, r2, hp1, hp2, hp3⟩ := P.GreedyTake_pure (w := a) (h := b) (a := l2) (u := l3) b2 b3 
    exact P.law_GreedyTake_yes a b A2 c2 l2 A3 c3 l3  4000001 r0 r1 L2 L3 r2 P.TB (fun _ _ h hb => h.below hb) w k2 hc2 k3 hc3 hT hbig hp3 (Nat.lt_succ_self _)
      (fun B2 d2 B3 d3 W hu2 hd2 hu3 hd3 hG => P.spec_GreedyTake.calls 4000001 a b B2 d2 l2 B3 d3 l3  r0 r1 L2 L3 r2 W hu2 hd2 hu3 hd3 hp1)
      (fun B2 d2 B3 d3 W hu2 hd2 hu3 hd3 hG => P.impl_GreedyTake.calls 4000001 a b B2 d2 l2 B3 d3 l3  r0 r1 L2 L3 r2 W hu2 hd2 hu3 hd3 hG hp2)
  · exact P.law_GreedyTake_no a b A2 c2 l2 A3 c3 l3  w k2 hc2 k3 hc3 (by clear hbig; omega) (by clear hbig; omega) hbig
theorem joined_mk (P : Program) (f : FuncId) (fn : Func) (s : ChangeSpec) (c : OpenClaim) (k0 : (c.wf (OpenSpec.ofChange s)) = true) (k1 : (laidOutB P) = true) (k2 : (mapsRowed P) = true) (k3 : (fn.params.all (P.readableRec ·)) = true) (k4 : (namedTie P c.named s.vars) = true) (k5 : ((c.stops == [])) = true) (k6 : ((P.stops == [])) = true) (k7 : ((c.knobs == [])) = true) (k8 : ((P.stopKnobs == [])) = true) (k9 : ((c.inPlace == P.inPlace f)) = true) (k10 : ((c.unfollowed == P.unfollowed f)) = true) (k11 : ((c.recurses == P.recurses f)) = true) (k12 : ((c.named == P.varsNamed f)) = true) (k13 : ((c.maps == (fn.params.toList ++ s.plain.varTypes P).any (P.mapsRec ·))) = true) (k14 : ((c.ifaces == (fn.params.toList ++ s.plain.varTypes P).any (P.ifacesRec ·))) = true) (k15 : ((c.mapsOut == P.mapsAmong fn.resultTypes.toList)) = true) (k16 : ((c.loops == (fn.params.toList ++ s.plain.varTypes P).any (P.loopsFrom ·))) = true) (k17 : ((c.wideKeys == (fn.params.toList ++ s.plain.varTypes P ++ fn.resultTypes.toList).any (P.wideKeysFrom ·))) = true) (k18 : (s.vars.all (P.varReadable ·)) = true) (k19 : (fn.resultTypes.all (fun t => P.readableRec t && decide (t < P.types.size))) = true) (k20 : ((c.ifacesOut == fn.resultTypes.toList.any (P.ifacesRec ·))) = true) (k21 : ((c.loopsOut == fn.resultTypes.toList.any (P.loopsFrom ·))) = true) (k22 : ((c.plainKeys == P.plainKeys)) = true) (k23 : (c.shortTexts.isNone) = true) (k24 : (P.stopsHeard) = true) (k25 : (P.mayEnter) = true) (k26 : ((c.lifted == P.liftsFinal)) = true) (k27 : ((P.make == some c.make)) = true) (hd : c.domain.isEmpty = true) (k28 : (c.kinds == []) = true) (k29 : ((c.pinned == c.pinnedBy)) = true) (k30 : ((c.veiled == (fn.params.toList ++ s.plain.varTypes P ++ fn.resultTypes.toList).any (P.veiledRec ·))) = true) (k31 : (c.veiledFits P fn.params.toList (fn.params.toList ++ s.plain.varTypes P ++ fn.resultTypes.toList)) = true) : joinedFacts P f fn s c = true := by
  unfold joinedFacts
  simp only [hd, if_true, k0, k1, k2, k3, k4, k5, k6, k7, k8, k9, k10, k11, k12, k13, k14, k15, k16, k17, k18, k19, k20, k21, k22, k23, k24, k25, k26, k27, k28, k29, k30, k31, Bool.and_self]
abbrev LAID : List (String × DataW Unit) := [("math/bits.deBruijn64tab", Rows.laid_math_bits_deBruijn64tab)]
set_option maxRecDepth 100000 in
theorem lifted (os : Os) (started : os.Started) (H : Type) (enc : TypeId × Value → H) :
    ReturnsInHanded {} Tryd.checked os 8 .any (fun w args => (Rows.fnExactGreedyTakeSpec.pre enc Tryd.prog Tryd.f8 [] false w args ∧ laidMetH Tryd.prog LAID w) ∧ sizedMet enc Tryd.prog Tryd.f8 (OpenSpec.ofChange Rows.fnExactGreedyTakeSpec) false w args) (Rows.fnExactGreedyTakeSpec.post enc Tryd.prog Tryd.f8 false true false false) := by
  refine returnsInHanded_of_change_and (C := Tryd.checked) (X := fun w _ => laidMetH Tryd.prog LAID w) (fun _ _ _ hh h => h.of_heap hh) own started (by kernel_rfl) Tryd.func8 (ChangeSpec.witness_at (enc := enc) (C := Tryd.checked) (os := os) (X := fun w _ => laidMetH Tryd.prog LAID w) false (Laid.laidWorld os) #[.agg #[.int .i64 0, .int .i64 0, .slice none 0 0, .slice none 0 0]] 8 rfl (by kernel_rfl) (by kernel_rfl) (by kernel_rfl) (by kernel_rfl) (by kernel_rfl) (Laid.laidWorld_met os _)) ?_
  intro W base args ds gs before hval0 hW hcnd hsz0 hL _
  have hT : P.TB W := Laid.tb hL
  have hsz : (DataW.weightsEach Tryd.prog (Tryd.f8.params.toList ++ Rows.fnExactGreedyTakeSpec.plain.varTypes Tryd.prog) (ds ++ gs)).all (· ≤ reachBytes) = true := hsz0
  have hval : ∀ (j : Nat) t v, Tryd.f8.params[j]? = some t → args[j]? = some v → Value.okWide Tryd.prog W .any base t v := hval0
  have hW' := hW
  obtain ⟨p, q, hA0, hV, rfl, hfz, hnd⟩ := hW
  have hA : DataW.TrodAll enc Tryd.prog W 0 (fun _ => true) true Tryd.f8.params.toList args.toList ds p := hA0
  rw [Tryd.params8] at hA hval hsz
  obtain ⟨v0, vs0, d0, ds0, p0, q0, hargs, rfl, rfl, h0, r0⟩ := trodAll_cons hA
  obtain ⟨rfl, rfl, rfl⟩ := trodAll_nil r0
  obtain rfl : args = #[v0] := by cases args; simp_all
  obtain ⟨rfl, rfl⟩ := trodVars_none hV
  have k0 := h0
  have lt0 : ∀ x ∈ p0, x.block < W.heap.size := by obtain ⟨m, hm⟩ := k0; exact DataW.trod_lt m _ _ _ hm

  obtain ⟨c0, c1, c2, c3, y0, y1, y2, y3, m, rfl, rfl, rfl, hy0, hy1, hy2, hy3⟩ := open_agg4 Tryd.underlying24 (by kernel_rfl) (by kernel_rfl) (hval 0 24 v0 rfl rfl) h0
  have hsz2 : (DataW.weightsEach Tryd.prog [3, 3, 22, 22] [y0.1, y1.1, y2.1, y3.1]).all (· ≤ reachBytes) = true := by
    rw [List.all_eq_true]
    intro n hn
    exact List.all_eq_true.1 hsz n (DataW.weights_mem_each (j := 0) (t := 24) (d := .agg [y0.1, y1.1, y2.1, y3.1]) rfl rfl n (by simp only [DataW.weights, Tryd.underlying24]; exact hn))
  obtain ⟨a, e0, -, wa⟩ := DataW.trod_int Tryd.underlying3 hy0
  obtain ⟨b, e1, -, wb⟩ := DataW.trod_int Tryd.underlying3 hy1
  obtain ⟨a2, len2, cap2, z2, rfl, w2⟩ := opened hy2
  obtain ⟨a3, len3, cap3, z3, rfl, w3⟩ := opened hy3
  have z2_ : len2 * 8 ≤ 140737488351232 := sized_ints hsz2 (j := 2) (t := 22) rfl rfl Tryd.underlying22 Tryd.underlying3 (by kernel_rfl) (by kernel_rfl) (⟨m, by simpa [Value.cells] using hy2⟩ : DataW.Trod enc Tryd.prog W 0 (fun _ => true) true 22 (.slice a2 len2 cap2) y2.1 y2.2)
  have z3_ : len3 * 8 ≤ 140737488351232 := sized_ints hsz2 (j := 3) (t := 22) rfl rfl Tryd.underlying22 Tryd.underlying3 (by kernel_rfl) (by kernel_rfl) (⟨m, by simpa [Value.cells] using hy3⟩ : DataW.Trod enc Tryd.prog W 0 (fun _ => true) true 22 (.slice a3 len3 cap3) y3.1 y3.2)
  obtain rfl : c0 = .int .i64 a := by simpa using e0
  obtain rfl : c1 = .int .i64 b := by simpa using e1
  clear hA0 hval0 hsz0 hsz hsz2
  refine (walk a b a2 len2 cap2 z2 a3 len3 cap3 z3  W w2 w3 z2_ z3_ hT).mono fun e W' ⟨he, bel⟩ => ?_
  subst he
  exact ⟨_, rfl, _, _, _, [], _, [], hW', trodAll_mk1 (shut_bool Tryd.underlying4 _), (trodAll_cons_mk (Below.trod laidOut (by kernel_rfl) (of_decide_eq_true (by kernel_rfl)) k0 bel lt0) trodAll_mk0), rfl, bel.frame _, fun h => by cases h⟩
theorem k0_ : (Rows.fnExactGreedyTakeRow.wf (OpenSpec.ofChange Rows.fnExactGreedyTakeSpec)) = true := by kernel_rfl
theorem k1_ : (laidOutB Tryd.prog) = true := Closed.laidOut
theorem k2_ : (mapsRowed Tryd.prog) = true := Closed.mapsRowedP
theorem k3_ : (Tryd.f8.params.all (Tryd.prog.readableRec ·)) = true := by kernel_rfl
theorem k4_ : (namedTie Tryd.prog Rows.fnExactGreedyTakeRow.named Rows.fnExactGreedyTakeSpec.vars) = true := by kernel_rfl
theorem k5_ : ((Rows.fnExactGreedyTakeRow.stops == [])) = true := by kernel_rfl
theorem k6_ : ((Tryd.prog.stops == [])) = true := Closed.noStops
theorem k7_ : ((Rows.fnExactGreedyTakeRow.knobs == [])) = true := by kernel_rfl
theorem k8_ : ((Tryd.prog.stopKnobs == [])) = true := Closed.noKnobs
theorem k9_ : ((Rows.fnExactGreedyTakeRow.inPlace == Tryd.prog.inPlace 8)) = true := by kernel_rfl
theorem k10_ : ((Rows.fnExactGreedyTakeRow.unfollowed == Tryd.prog.unfollowed 8)) = true := by kernel_rfl
theorem k11_ : ((Rows.fnExactGreedyTakeRow.recurses == Tryd.prog.recurses 8)) = true := by kernel_rfl
theorem k12_ : ((Rows.fnExactGreedyTakeRow.named == Tryd.prog.varsNamed 8)) = true := by kernel_rfl
theorem k13_ : ((Rows.fnExactGreedyTakeRow.maps == (Tryd.f8.params.toList ++ Rows.fnExactGreedyTakeSpec.plain.varTypes Tryd.prog).any (Tryd.prog.mapsRec ·))) = true := by kernel_rfl
theorem k14_ : ((Rows.fnExactGreedyTakeRow.ifaces == (Tryd.f8.params.toList ++ Rows.fnExactGreedyTakeSpec.plain.varTypes Tryd.prog).any (Tryd.prog.ifacesRec ·))) = true := by kernel_rfl
theorem k15_ : ((Rows.fnExactGreedyTakeRow.mapsOut == Tryd.prog.mapsAmong Tryd.f8.resultTypes.toList)) = true := by kernel_rfl
theorem k16_ : ((Rows.fnExactGreedyTakeRow.loops == (Tryd.f8.params.toList ++ Rows.fnExactGreedyTakeSpec.plain.varTypes Tryd.prog).any (Tryd.prog.loopsFrom ·))) = true := by kernel_rfl
theorem k17_ : ((Rows.fnExactGreedyTakeRow.wideKeys == (Tryd.f8.params.toList ++ Rows.fnExactGreedyTakeSpec.plain.varTypes Tryd.prog ++ Tryd.f8.resultTypes.toList).any (Tryd.prog.wideKeysFrom ·))) = true := by kernel_rfl
theorem k18_ : (Rows.fnExactGreedyTakeSpec.vars.all (Tryd.prog.varReadable ·)) = true := by kernel_rfl
theorem k19_ : (Tryd.f8.resultTypes.all (fun t => Tryd.prog.readableRec t && decide (t < Tryd.prog.types.size))) = true := by kernel_rfl
theorem k20_ : ((Rows.fnExactGreedyTakeRow.ifacesOut == Tryd.f8.resultTypes.toList.any (Tryd.prog.ifacesRec ·))) = true := by kernel_rfl
theorem k21_ : ((Rows.fnExactGreedyTakeRow.loopsOut == Tryd.f8.resultTypes.toList.any (Tryd.prog.loopsFrom ·))) = true := by kernel_rfl
theorem k22_ : ((Rows.fnExactGreedyTakeRow.plainKeys == Tryd.prog.plainKeys)) = true := by kernel_rfl
theorem k23_ : (Rows.fnExactGreedyTakeRow.shortTexts.isNone) = true := by kernel_rfl
theorem k24_ : (Tryd.prog.stopsHeard) = true := Closed.stopsHeard
theorem k25_ : (Tryd.prog.mayEnter) = true := Closed.mayEnter
theorem k26_ : ((Rows.fnExactGreedyTakeRow.lifted == Tryd.prog.liftsFinal)) = true := by rw [Closed.liftsFinal]; kernel_rfl
theorem k27_ : ((Tryd.prog.make == some Rows.fnExactGreedyTakeRow.make)) = true := by rw [Closed.make]; kernel_rfl
theorem k28_ : ((Rows.fnExactGreedyTakeRow.kinds == [])) = true := by kernel_rfl
theorem k29_ : ((Rows.fnExactGreedyTakeRow.pinned == Rows.fnExactGreedyTakeRow.pinnedBy)) = true := by kernel_rfl
theorem k30_ : ((Rows.fnExactGreedyTakeRow.veiled == (Tryd.f8.params.toList ++ Rows.fnExactGreedyTakeSpec.plain.varTypes Tryd.prog ++ Tryd.f8.resultTypes.toList).any (Tryd.prog.veiledRec ·))) = true := by kernel_rfl
theorem k31_ : (Rows.fnExactGreedyTakeRow.veiledFits Tryd.prog Tryd.f8.params.toList (Tryd.f8.params.toList ++ Rows.fnExactGreedyTakeSpec.plain.varTypes Tryd.prog ++ Tryd.f8.resultTypes.toList)) = true := by kernel_rfl
theorem k99_ : (Rows.fnExactGreedyTakeRow.domain.isEmpty) = true := by kernel_rfl
theorem closed : joinedFacts Tryd.prog 8 Tryd.f8 Rows.fnExactGreedyTakeSpec Rows.fnExactGreedyTakeRow = true :=
  joined_mk _ _ _ _ _ k0_ k1_ k2_ k3_ k4_ k5_ k6_ k7_ k8_ k9_ k10_ k11_ k12_ k13_ k14_ k15_ k16_ k17_ k18_ k19_ k20_ k21_ k22_ k23_ k24_ k25_ k26_ k27_ k99_ k28_ k29_ k30_ k31_
theorem over : Rows.fnExactGreedyTakeRow.holds Tryd.pinned (OpenSpec.ofChange Rows.fnExactGreedyTakeSpec) :=
  OpenClaim.holds_of_wide 8 Tryd.f8 rfl rfl rfl rfl rfl rfl rfl ⟨rfl, rfl, rfl, rfl, rfl⟩ rfl rfl rfl rfl rfl (by kernel_rfl) Tryd.func8 closed
    (of_decide_eq_true (by kernel_rfl)) (by unfold Func.isWrapper; first | (rw [if_pos (by decide +kernel)]; kernel_rfl) | (rw [if_neg (by decide +kernel)]; exact ⟨rfl, rfl⟩))
    (fun os started H enc _ => lifted os started H enc)
theorem card : Rows.FnExactGreedyTakeCardSaid :=
  Claim7.holds_tied_plain_at .later [] [.data] true (true, "881df8fd4cc24539997f6b0e4a4c9c78cd9d90516025012de697bc07ffd4fb01") false
    over (fun _ h => by cases h) (by kernel_rfl) (fun _ h => by cases h) fnExactGreedyTake_row_tie rfl ⟨rfl, rfl⟩ (by kernel_rfl) rfl
    (fun f fn hf hfn => by
      obtain rfl : f = 8 := Option.some.inj ((show Tryd.prog.funcNamed "loop.example/g01233/laws.FnExactGreedyTake" = some 8 by kernel_rfl).symm.trans hf) |>.symm
      obtain rfl : fn = Tryd.f8 := (Option.some.inj (Tryd.func8.symm.trans hfn)).symm
      exact ⟨by kernel_rfl, fun j t ht => by
        rw [Tryd.params8] at ht
        have h3 : t = 24 ∨ t = 3 ∨ t = 4 := by
          rcases j with _ | _ | _ | _ | _ | j
          all_goals first | (left; simpa using ht.symm) | (right; left; simpa using ht.symm) | (right; right; simpa using ht.symm) | simp at ht
        rcases h3 with rfl | rfl | rfl
        · exact (show Tryd.prog.wantsStandIn 24 = false by kernel_rfl)
        · exact (show Tryd.prog.wantsStandIn 3 = false by kernel_rfl)
        · exact (show Tryd.prog.wantsStandIn 4 = false by kernel_rfl)⟩)
    (by kernel_rfl)
end Go.Proofs.YtjnajeplfgdklaaDoor.fnExactGreedyTake
namespace Go.Proofs.YtjnajeplfgdklaaDoor
theorem fnExactGreedyTake_holds : Rows.FnExactGreedyTakeCardSaid := fnExactGreedyTake.card
end Go.Proofs.YtjnajeplfgdklaaDoor

