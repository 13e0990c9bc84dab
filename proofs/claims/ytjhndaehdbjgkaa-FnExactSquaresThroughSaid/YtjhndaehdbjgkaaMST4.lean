/- For every input the law FnExactSquaresThrough answers true: the program's SquaresThrough tells what the reference's SquaresThrough tells; no condition. (part 4 of the proof; the words of the kit's print tool and the texts of this seat, merged by a program) -/
import Derived.Below
import Derived.ChangeOld
import Derived.JoinedOf
import Derived.Lib.SmallJoins
import Derived.OpenShut
import Derived.ProofKit
import Derived.SizedLaws
import Derived.Test.YtjhndaehdbjgkaaClosed
import Derived.Test.YtjhndaehdbjgkaaRows
import Derived.WalkKit
import Derived.Test.YtjhndaehdbjgkaaMST3
namespace Go.Proofs.Ytjhndaehdbjgkaa.P
open Go.RowKit Go.Proofs.YtjhndaehdbjgkaaW.PrintWords Go.Proofs.YtjhndaehdbjgkaaW.PrintLast Go.Proofs.YtjhndaehdbjgkaaW.PrintMore
attribute [local go_sem] max2_int min2_int max_two min_two max_three min_three max_four min_four   -- for this text's walks alone
set_option linter.unusedVariables false
set_option linter.unusedSimpArgs false

mutual
def spec_SquaresThrough.j0 : Nat → Bool → Int → Int → Bool → Int → Int → List Int → List Int → Option (Int × Bool)
  | 0, _, _, _, _, _, _, _, _ => none
  | k + 1, x1, x2, x3, x30, x173000, x173001, x173002, x173003 => if x30 = true then (some (0, false)) else ((spec_fiEdge.f x173000 x173001 x173002 x173003 x1 x2 x3).bind fun bt175 => ((spec_sqBit.f x173000 x173001 x1 bt175.1).bind fun t177 => ((spec_sqMask.f k x173000 x173001 x173002 x173003).bind fun t178 => ((spec_sqAll.f k x173000 x173001).bind fun t179 => (spec_SquaresThrough.l0 k t177 t178 0 t179 (t179.length : Int) 0)))))
def spec_SquaresThrough.l0 : Nat → Int → Int → Int → List (S87) → Int → Int → Option (Int × Bool)
  | 0, _, _, _, _, _, _ => none
  | k + 1, x12, x13, x14, x52, x53, x54 => if x54 < x53 then (if 0 ≤ x54 then (if x54 < (x52.length : Int) then (if (Go.bits .and .i64 x13 ((rd_T87 x52 x54).f3)) = ((rd_T87 x52 x54).f3) then (if (Go.bits .and .i64 ((rd_T87 x52 x54).f3) x12) = 0 then (spec_SquaresThrough.l0 k x12 x13 x14 x52 x53 (wrap64 (x54 + 1))) else (spec_SquaresThrough.l0 k x12 x13 (wrap64 (x14 + 1)) x52 x53 (wrap64 (x54 + 1)))) else (spec_SquaresThrough.l0 k x12 x13 x14 x52 x53 (wrap64 (x54 + 1)))) else (none)) else (none)) else (some (x14, true))
end
def spec_SquaresThrough.f (k : Nat) (a0_0 : Int) (a0_1 : Int) (l0_2 : List Int) (l0_3 : List Int) (a1 : Bool) (a2 : Int) (a3 : Int) : Option (Int × Bool) := (spec_fiAsked.f k a0_0 a0_1 l0_2 l0_3 a1 a2 a3).bind fun t173 => (if t173 = true then ((spec_fiHas.f k a0_0 a0_1 l0_2 l0_3 a1 a2 a3).bind fun t174 => (spec_SquaresThrough.j0 k a1 a2 a3 (!t174) a0_0 a0_1 l0_2 l0_3)) else (spec_SquaresThrough.j0 k a1 a2 a3 true a0_0 a0_1 l0_2 l0_3))
theorem spec_SquaresThrough.mono_l : ∀ k, (∀ y0 y1 y2 y3 y4 y5 y6 y7, LeO (spec_SquaresThrough.j0 k y0 y1 y2 y3 y4 y5 y6 y7) (spec_SquaresThrough.j0 (k + 1) y0 y1 y2 y3 y4 y5 y6 y7)) ∧ (∀ y0 y1 y2 y3 y4 y5, LeO (spec_SquaresThrough.l0 k y0 y1 y2 y3 y4 y5) (spec_SquaresThrough.l0 (k + 1) y0 y1 y2 y3 y4 y5))
  | 0 => ⟨fun _ _ _ _ _ _ _ _ r h => by simp [spec_SquaresThrough.j0] at h, fun _ _ _ _ _ _ r h => by simp [spec_SquaresThrough.l0] at h⟩
  | k + 1 => by
    obtain ⟨ih0, ih1⟩ := spec_SquaresThrough.mono_l k
    refine ⟨?_, ?_⟩
    · intro y0 y1 y2 y3 y4 y5 y6 y7
      unfold spec_SquaresThrough.j0
      repeat' first
      | (with_reducible exact ih0 _ _ _ _ _ _ _ _)
      | (with_reducible exact ih1 _ _ _ _ _ _)
      | (with_reducible exact spec_fiAsked.mono _ _ _ _ _ _ _ _)
      | (with_reducible exact spec_fiHas.mono _ _ _ _ _ _ _ _)
      | (with_reducible exact spec_sqAll.mono _ _ _)
      | (with_reducible exact spec_sqMask.mono _ _ _ _ _)
      | (with_reducible exact LeO.refl _)
      | (with_reducible exact LeO.none _)
      | (with_reducible refine LeO.ite ?_ ?_)
      | (with_reducible refine LeO.bind ?_ (fun _ => ?_))
      | exact ih0 _ _ _ _ _ _ _ _
      | exact ih1 _ _ _ _ _ _
      | exact spec_fiAsked.mono _ _ _ _ _ _ _ _
      | exact spec_fiHas.mono _ _ _ _ _ _ _ _
      | exact spec_sqAll.mono _ _ _
      | exact spec_sqMask.mono _ _ _ _ _
      | exact LeO.none _
      | refine LeO.ite ?_ ?_
      | refine LeO.bind ?_ (fun _ => ?_)
    · intro y0 y1 y2 y3 y4 y5
      unfold spec_SquaresThrough.l0
      repeat' first
      | (with_reducible exact ih0 _ _ _ _ _ _ _ _)
      | (with_reducible exact ih1 _ _ _ _ _ _)
      | (with_reducible exact spec_fiAsked.mono _ _ _ _ _ _ _ _)
      | (with_reducible exact spec_fiHas.mono _ _ _ _ _ _ _ _)
      | (with_reducible exact spec_sqAll.mono _ _ _)
      | (with_reducible exact spec_sqMask.mono _ _ _ _ _)
      | (with_reducible exact LeO.refl _)
      | (with_reducible exact LeO.none _)
      | (with_reducible refine LeO.ite ?_ ?_)
      | (with_reducible refine LeO.bind ?_ (fun _ => ?_))
      | exact ih0 _ _ _ _ _ _ _ _
      | exact ih1 _ _ _ _ _ _
      | exact spec_fiAsked.mono _ _ _ _ _ _ _ _
      | exact spec_fiHas.mono _ _ _ _ _ _ _ _
      | exact spec_sqAll.mono _ _ _
      | exact spec_sqMask.mono _ _ _ _ _
      | exact LeO.none _
      | refine LeO.ite ?_ ?_
      | refine LeO.bind ?_ (fun _ => ?_)
theorem spec_SquaresThrough.mono : ∀ a0 a1 a2 a3 a4 a5 a6 k, LeO (spec_SquaresThrough.f k a0 a1 a2 a3 a4 a5 a6) (spec_SquaresThrough.f (k + 1) a0 a1 a2 a3 a4 a5 a6) := by
  intro a0 a1 a2 a3 a4 a5 a6 k
  obtain ⟨ih0, ih1⟩ := spec_SquaresThrough.mono_l k
  unfold spec_SquaresThrough.f
  repeat' first
      | (with_reducible exact ih0 _ _ _ _ _ _ _ _)
      | (with_reducible exact ih1 _ _ _ _ _ _)
      | (with_reducible exact spec_fiAsked.mono _ _ _ _ _ _ _ _)
      | (with_reducible exact spec_fiHas.mono _ _ _ _ _ _ _ _)
      | (with_reducible exact spec_sqAll.mono _ _ _)
      | (with_reducible exact spec_sqMask.mono _ _ _ _ _)
      | (with_reducible exact LeO.refl _)
      | (with_reducible exact LeO.none _)
      | (with_reducible refine LeO.ite ?_ ?_)
      | (with_reducible refine LeO.bind ?_ (fun _ => ?_))
      | exact ih0 _ _ _ _ _ _ _ _
      | exact ih1 _ _ _ _ _ _
      | exact spec_fiAsked.mono _ _ _ _ _ _ _ _
      | exact spec_fiHas.mono _ _ _ _ _ _ _ _
      | exact spec_sqAll.mono _ _ _
      | exact spec_sqMask.mono _ _ _ _ _
      | exact LeO.none _
      | refine LeO.ite ?_ ?_
      | refine LeO.bind ?_ (fun _ => ?_)
def spec_SquaresThrough.T4 : Bool × List (List Nat × List Nat) := (true, [([], []), ([0], [0]), ([], []), ([2], [2]), ([], []), ([], []), ([1, 3, 4, 5], [1, 3, 4, 5]), ([], []), ([7, 6], [7]), ([6, 8, 0, 1, 2, 3, 4, 5, 6], [6]), ([8, 9, 0, 1, 2, 3, 4, 5, 6, 7, 8, 9], [8])])
def spec_SquaresThrough.B4 : List Nat := [0, 1, 0, 4, 0, 0, 63, 0, 255, 511, 1023]
theorem spec_SquaresThrough.tab4 : rtab .any (opsOf Try.f35 4) = spec_SquaresThrough.T4 := by kernel_rfl
theorem spec_SquaresThrough.bits4 : waitsOk spec_SquaresThrough.T4.2 spec_SquaresThrough.B4 = true := by kernel_rfl
set_option maxHeartbeats 8000000 in
set_option maxRecDepth 100000 in
theorem spec_SquaresThrough.calls (k : Nat) (a0_0 : Int) (a0_1 : Int) (A0_2 : Option Addr) (c0_2 : Nat) (l0_2 : List Int) (A0_3 : Option Addr) (c0_3 : Nat) (l0_3 : List Int) (a1 : Bool) (a2 : Int) (a3 : Int) (r1 : Int) (r2 : Bool) (w : World) (hr0_2 : Kd.C (Kd.int .i64) w A0_2 l0_2.length l0_2) (hc0_2 : l0_2.length ≤ c0_2) (hr0_3 : Kd.C (Kd.int .i64) w A0_3 l0_3.length l0_3) (hc0_3 : l0_3.length ≤ c0_3) (h : spec_SquaresThrough.f k a0_0 a0_1 l0_2 l0_3 a1 a2 a3 = some (r1, r2)) :
    Calls Try.prog 35 #[.agg #[.int .i64 a0_0, .int .i64 a0_1, .slice A0_2 l0_2.length c0_2, .slice A0_3 l0_3.length c0_3], .bool a1, .int .i64 a2, .int .i64 a3] w fun e w' => e = .returned (.tuple #[.int .i64 r1, .bool r2]) ∧ Below w.heap.size w w' := by
  have hu28 := Try.underlying28
  have hu87 := Try.underlying87
  have HR0_2 := Aside0.mk hr0_2
  have HC0_2 := Aside0.mk hc0_2
  clear hr0_2 hc0_2
  have HR0_3 := Aside0.mk hr0_3
  have HC0_3 := Aside0.mk hc0_3
  clear hr0_3 hc0_3
  have HB := Aside0.mk (Below.refl w.heap.size w)
  have H : ((spec_fiAsked.f k a0_0 a0_1 l0_2 l0_3 a1 a2 a3).bind fun t173 => (if t173 = true then ((spec_fiHas.f k a0_0 a0_1 l0_2 l0_3 a1 a2 a3).bind fun t174 => (spec_SquaresThrough.j0 k a1 a2 a3 (!t174) a0_0 a0_1 l0_2 l0_3)) else (spec_SquaresThrough.j0 k a1 a2 a3 true a0_0 a0_1 l0_2 l0_3))) = some (r1, r2) := h
  clear h
  have HC5 := Aside0.mk H
  clear H
  go_enter Try.func35, Try.ntmps35
  go_upto_region 1 with (first | ((with_reducible refine gate_dst (N := 4) rfl ?_); refine box_event ?hg (N := 4) ?hd (cs := #[.int .i64 a0_0, .int .i64 a0_1, .slice A0_2 l0_2.length c0_2, .slice A0_3 l0_3.length c0_3]) (t := 28) ?hr ?_; (case hd => rfl); (case hg => rfl); (case hr => first | (go_simp; done) | (go_simp; rfl)); intro gb172 hg w6 hbox hb; have n0_ := Aside0.mk (below_step (by repeat (first | (with_reducible first | exact HB.out | apply below_alloc | apply pw_below_drewN | apply below_drew1) | exact HB.out)) hb); have n1_ := Aside0.mk (hbox); have n2_ := Aside0.mk ((by rw [hg]; exact (below_size (by repeat (first | (with_reducible first | exact HB.out | apply below_alloc | apply pw_below_drewN | apply below_drew1) | exact HB.out))) : w.heap.size ≤ gb172)); have n3_ := Aside0.mk ((by rw [hg]; exact (below_size (by repeat (first | (with_reducible first | exact HB.out | apply below_alloc | apply pw_below_drewN | apply below_drew1) | exact HB.out))) : w.heap.size ≤ gb172)); clear HB; have HB := n0_; have BK172 := n1_; have GW172 := n2_; have GE172 := n3_; clear n0_ n1_ n2_ n3_; clear hb hbox hg))
  (try simp only [Act.put, List.setIfInBounds_toArray, List.set_cons_zero, List.set_cons_succ])
  go_cut [30] (fun v30 wc => ∃ (kq : Nat) (x30_4 : Bool), v30 = .bool x30_4 ∧ Aside0 (spec_SquaresThrough.j0 kq a1 a2 a3 x30_4 a0_0 a0_1 l0_2 l0_3 = some (r1, r2)) ∧ Aside0 (kq ≤ k) ∧ Aside0 (wc.heap[gb172]? = some (.cells #[.int .i64 a0_0, .int .i64 a0_1, (.slice A0_2 l0_2.length c0_2), (.slice A0_3 l0_3.length c0_3)] 28 (0, 0))) ∧ Aside0 (Below w.heap.size w wc))
  case first =>
    have H := HC5.out
    clear HC5
    replace H := Option.bind_eq_some_iff.mp H
    obtain ⟨t173, A70, H⟩ := H
    replace H : (if t173 = true then ((spec_fiHas.f k a0_0 a0_1 l0_2 l0_3 a1 a2 a3).bind fun t174 => (spec_SquaresThrough.j0 k a1 a2 a3 (!t174) a0_0 a0_1 l0_2 l0_3)) else (spec_SquaresThrough.j0 k a1 a2 a3 true a0_0 a0_1 l0_2 l0_3)) = some (r1, r2) := H
    have A7 := Aside0.mk A70
    clear A70
    by_cases c8 : t173 = true
    · subst c8
      have H1 : ((spec_fiHas.f k a0_0 a0_1 l0_2 l0_3 a1 a2 a3).bind fun t174 => (spec_SquaresThrough.j0 k a1 a2 a3 (!t174) a0_0 a0_1 l0_2 l0_3)) = some (r1, r2) := by rw [if_pos rfl] at H; exact H
      clear H
      have H := H1
      clear H1
      replace H := Option.bind_eq_some_iff.mp H
      obtain ⟨t174, A90, H⟩ := H
      replace H : (spec_SquaresThrough.j0 k a1 a2 a3 (!t174) a0_0 a0_1 l0_2 l0_3) = some (r1, r2) := H
      have A9 := Aside0.mk A90
      clear A90
      have H' := Aside0.mk H
      clear H
      have hcz10_0 : w6.cell? ⟨gb172, 0, none⟩ = some (.int .i64 a0_0) := (blk_cell BK172.out 0).trans rfl
      have hcz10_1 : w6.cell? ⟨gb172, 1, none⟩ = some (.int .i64 a0_1) := (blk_cell BK172.out 1).trans rfl
      have hcz10_2 : w6.cell? ⟨gb172, 2, none⟩ = some (.slice A0_2 l0_2.length c0_2) := (blk_cell BK172.out 2).trans rfl
      have hcz10_3 : w6.cell? ⟨gb172, 3, none⟩ = some (.slice A0_3 l0_3.length c0_3) := (blk_cell BK172.out 3).trans rfl
      have hfz10_0 := blk_frozen BK172.out 0
      have hfz10_1 := blk_frozen BK172.out 1
      have hfz10_2 := blk_frozen BK172.out 2
      have hfz10_3 := blk_frozen BK172.out 3
      go_wp2_with (first | ((with_reducible refine gate_callee (f := 89) rfl ?_); refine goesL_ (some 21) rfl rfl Try.func89 (by kernel_rfl) rfl #[.agg #[.int .i64 a0_0, .int .i64 a0_1, .slice A0_2 l0_2.length c0_2, .slice A0_3 l0_3.length c0_3], .bool a1, .int .i64 a2, .int .i64 a3] rfl (by (try simp only [List.map_toArray, List.map_cons, List.map_nil]); first | done | rfl | (simp only [List.length_drop, List.length_take]; rfl)) ?_; (with_reducible refine (spec_fiAsked.calls k a0_0 a0_1 _ _ l0_2 _ _ l0_3 a1 a2 a3 true _ ?side1 ?side2 ?side3 ?side4 A7.out).mono ?_); (case side1 => repeat (first | exact (Kd.C_below HR0_2.out HB.out) | (with_reducible refine Kd.C_alloc ?_ _) | (with_reducible refine Kd.C_drewN ?_ _) | (with_reducible refine Kd.C_drew ?_))); (case side2 => exact HC0_2.out); (case side3 => repeat (first | exact (Kd.C_below HR0_3.out HB.out) | (with_reducible refine Kd.C_alloc ?_ _) | (with_reducible refine Kd.C_drewN ?_ _) | (with_reducible refine Kd.C_drew ?_))); (case side4 => exact HC0_3.out); rintro e w11 ⟨rfl, hb⟩; refine ⟨_, rfl, ?_⟩; have n0_ := Aside0.mk (blk_below (g := gb172) (o := .cells #[.int .i64 a0_0, .int .i64 a0_1, .slice A0_2 l0_2.length c0_2, .slice A0_3 l0_3.length c0_3] 28 (0, 0)) (by (with_reducible repeat (first | refine blk_drewN ?_ _ | refine blk_drew ?_ | refine blk_alloc ?_ _)); exact BK172.out) hb); have n1_ := Aside0.mk (below_step (by repeat (first | (with_reducible first | exact HB.out | apply below_alloc | apply pw_below_drewN | apply below_drew1 | refine below_set ?_ GE172.out) | exact HB.out)) hb); clear BK172; clear HB; have BK172 := n0_; have HB := n1_; clear n0_ n1_; (try clear hb); (try clear hb2); (try clear hk); (try clear hi); have hcz12_0 : w11.cell? ⟨gb172, 0, none⟩ = some (.int .i64 a0_0) := (blk_cell BK172.out 0).trans rfl; have hcz12_1 : w11.cell? ⟨gb172, 1, none⟩ = some (.int .i64 a0_1) := (blk_cell BK172.out 1).trans rfl; have hcz12_2 : w11.cell? ⟨gb172, 2, none⟩ = some (.slice A0_2 l0_2.length c0_2) := (blk_cell BK172.out 2).trans rfl; have hcz12_3 : w11.cell? ⟨gb172, 3, none⟩ = some (.slice A0_3 l0_3.length c0_3) := (blk_cell BK172.out 3).trans rfl; have hfz12_0 := blk_frozen BK172.out 0; have hfz12_1 := blk_frozen BK172.out 1; have hfz12_2 := blk_frozen BK172.out 2; have hfz12_3 := blk_frozen BK172.out 3) | (go_at_call 90; (with_reducible refine (spec_fiHas.calls k a0_0 a0_1 _ _ l0_2 _ _ l0_3 a1 a2 a3 t174 _ ?side1 ?side2 ?side3 ?side4 A9.out).mono ?_); (case side1 => repeat (first | exact (Kd.C_below HR0_2.out HB.out) | (with_reducible refine Kd.C_alloc ?_ _) | (with_reducible refine Kd.C_drewN ?_ _) | (with_reducible refine Kd.C_drew ?_))); (case side2 => exact HC0_2.out); (case side3 => repeat (first | exact (Kd.C_below HR0_3.out HB.out) | (with_reducible refine Kd.C_alloc ?_ _) | (with_reducible refine Kd.C_drewN ?_ _) | (with_reducible refine Kd.C_drew ?_))); (case side4 => exact HC0_3.out); rintro e w13 ⟨rfl, hb⟩; have n0_ := Aside0.mk (blk_below (g := gb172) (o := .cells #[.int .i64 a0_0, .int .i64 a0_1, .slice A0_2 l0_2.length c0_2, .slice A0_3 l0_3.length c0_3] 28 (0, 0)) (by (with_reducible repeat (first | refine blk_drewN ?_ _ | refine blk_drew ?_ | refine blk_alloc ?_ _)); exact BK172.out) hb); have n1_ := Aside0.mk (below_step (by repeat (first | (with_reducible first | exact HB.out | apply below_alloc | apply pw_below_drewN | apply below_drew1 | refine below_set ?_ GE172.out) | exact HB.out)) hb); clear BK172; clear HB; have BK172 := n0_; have HB := n1_; clear n0_ n1_; (try clear hb); (try clear hb2); (try clear hk); (try clear hi)))
      go_meet
      case rel => exact ⟨_, (!t174), (by first | rfl | (simp; done) | (simp [*]; done)), H', ⟨by first | omega | exact Nat.le_refl _⟩, ⟨by (with_reducible repeat (first | refine blk_drewN ?_ _ | refine blk_drew ?_ | refine blk_alloc ?_ _)); exact BK172.out⟩, ⟨by repeat (first | (with_reducible first | exact HB.out | apply below_alloc | apply pw_below_drewN | apply below_drew1 | refine below_set ?_ GE172.out) | exact HB.out)⟩⟩
    · replace c8 := Bool.eq_false_iff.mpr c8
      subst c8
      have H1 : (spec_SquaresThrough.j0 k a1 a2 a3 true a0_0 a0_1 l0_2 l0_3) = some (r1, r2) := by rw [if_neg (show ¬ (false = true) by decide)] at H; exact H
      clear H
      have H := H1
      clear H1
      have H' := Aside0.mk H
      clear H
      have hcz14_0 : w6.cell? ⟨gb172, 0, none⟩ = some (.int .i64 a0_0) := (blk_cell BK172.out 0).trans rfl
      have hcz14_1 : w6.cell? ⟨gb172, 1, none⟩ = some (.int .i64 a0_1) := (blk_cell BK172.out 1).trans rfl
      have hcz14_2 : w6.cell? ⟨gb172, 2, none⟩ = some (.slice A0_2 l0_2.length c0_2) := (blk_cell BK172.out 2).trans rfl
      have hcz14_3 : w6.cell? ⟨gb172, 3, none⟩ = some (.slice A0_3 l0_3.length c0_3) := (blk_cell BK172.out 3).trans rfl
      have hfz14_0 := blk_frozen BK172.out 0
      have hfz14_1 := blk_frozen BK172.out 1
      have hfz14_2 := blk_frozen BK172.out 2
      have hfz14_3 := blk_frozen BK172.out 3
      go_wp2_with (first | ((with_reducible refine gate_callee (f := 89) rfl ?_); refine goesL_ (some 21) rfl rfl Try.func89 (by kernel_rfl) rfl #[.agg #[.int .i64 a0_0, .int .i64 a0_1, .slice A0_2 l0_2.length c0_2, .slice A0_3 l0_3.length c0_3], .bool a1, .int .i64 a2, .int .i64 a3] rfl (by (try simp only [List.map_toArray, List.map_cons, List.map_nil]); first | done | rfl | (simp only [List.length_drop, List.length_take]; rfl)) ?_; (with_reducible refine (spec_fiAsked.calls k a0_0 a0_1 _ _ l0_2 _ _ l0_3 a1 a2 a3 false _ ?side1 ?side2 ?side3 ?side4 A7.out).mono ?_); (case side1 => repeat (first | exact (Kd.C_below HR0_2.out HB.out) | (with_reducible refine Kd.C_alloc ?_ _) | (with_reducible refine Kd.C_drewN ?_ _) | (with_reducible refine Kd.C_drew ?_))); (case side2 => exact HC0_2.out); (case side3 => repeat (first | exact (Kd.C_below HR0_3.out HB.out) | (with_reducible refine Kd.C_alloc ?_ _) | (with_reducible refine Kd.C_drewN ?_ _) | (with_reducible refine Kd.C_drew ?_))); (case side4 => exact HC0_3.out); rintro e w15 ⟨rfl, hb⟩; refine ⟨_, rfl, ?_⟩; have n0_ := Aside0.mk (blk_below (g := gb172) (o := .cells #[.int .i64 a0_0, .int .i64 a0_1, .slice A0_2 l0_2.length c0_2, .slice A0_3 l0_3.length c0_3] 28 (0, 0)) (by (with_reducible repeat (first | refine blk_drewN ?_ _ | refine blk_drew ?_ | refine blk_alloc ?_ _)); exact BK172.out) hb); have n1_ := Aside0.mk (below_step (by repeat (first | (with_reducible first | exact HB.out | apply below_alloc | apply pw_below_drewN | apply below_drew1 | refine below_set ?_ GE172.out) | exact HB.out)) hb); clear BK172; clear HB; have BK172 := n0_; have HB := n1_; clear n0_ n1_; (try clear hb); (try clear hb2); (try clear hk); (try clear hi)))
      go_meet
      case rel => exact ⟨_, (true), (by first | rfl | (simp; done) | (simp [*]; done)), H', ⟨by first | omega | exact Nat.le_refl _⟩, ⟨by (with_reducible repeat (first | refine blk_drewN ?_ _ | refine blk_drew ?_ | refine blk_alloc ?_ _)); exact BK172.out⟩, ⟨by repeat (first | (with_reducible first | exact HB.out | apply below_alloc | apply pw_below_drewN | apply below_drew1 | refine below_set ?_ GE172.out) | exact HB.out)⟩⟩
  case rest =>
    clear HC5
    try clear p2
    try clear c3
    try clear c8
    try clear hcz10_0
    try clear hcz10_1
    try clear hcz10_2
    try clear hcz10_3
    try clear hcz12_0
    try clear hcz12_1
    try clear hcz12_2
    try clear hcz12_3
    try clear hcz14_0
    try clear hcz14_1
    try clear hcz14_2
    try clear hcz14_3
    try clear hfz10_0
    try clear hfz10_1
    try clear hfz10_2
    try clear hfz10_3
    try clear hfz12_0
    try clear hfz12_1
    try clear hfz12_2
    try clear hfz12_3
    try clear hfz14_0
    try clear hfz14_1
    try clear hfz14_2
    try clear hfz14_3
    obtain ⟨kq, x30_4, rfl, HA, HJ4, BK172, HB⟩ := hcut
    cases kq with
    | zero => exact absurd HA.out (by simp [spec_SquaresThrough.j0])
    | succ kj4 =>
      have H := HA.out
      clear HA
      simp only [spec_SquaresThrough.j0] at H
      by_cases c16 : x30_4 = true
      · subst c16
        have H1 : (some (0, false)) = some (r1, r2) := by rw [if_pos rfl] at H; exact H
        clear H
        have H := H1
        clear H1
        simp only [Option.some.injEq, Prod.mk.injEq] at H
        obtain ⟨rfl, rfl⟩ := H
        go_wp2
        go_ret2
        exact ⟨by first | rfl | (simp [errW_none, errW_some] <;> rfl) | (simp [*, errW_none, errW_some] <;> rfl), by repeat (first | (with_reducible first | exact HB.out | apply below_alloc | apply pw_below_drewN | apply below_drew1 | refine below_set ?_ GE172.out) | exact HB.out)⟩
      · replace c16 := Bool.eq_false_iff.mpr c16
        subst c16
        have H1 : ((spec_fiEdge.f a0_0 a0_1 l0_2 l0_3 a1 a2 a3).bind fun bt175 => ((spec_sqBit.f a0_0 a0_1 a1 bt175.1).bind fun t177 => ((spec_sqMask.f kj4 a0_0 a0_1 l0_2 l0_3).bind fun t178 => ((spec_sqAll.f kj4 a0_0 a0_1).bind fun t179 => (spec_SquaresThrough.l0 kj4 t177 t178 0 t179 (t179.length : Int) 0))))) = some (r1, r2) := by rw [if_neg (show ¬ (false = true) by decide)] at H; exact H
        clear H
        have H := H1
        clear H1
        replace H := Option.bind_eq_some_iff.mp H
        obtain ⟨⟨t175, t176⟩, A170, H⟩ := H
        replace H : ((spec_sqBit.f a0_0 a0_1 a1 t175).bind fun t177 => ((spec_sqMask.f kj4 a0_0 a0_1 l0_2 l0_3).bind fun t178 => ((spec_sqAll.f kj4 a0_0 a0_1).bind fun t179 => (spec_SquaresThrough.l0 kj4 t177 t178 0 t179 (t179.length : Int) 0)))) = some (r1, r2) := H
        have A17 := Aside0.mk A170
        clear A170
        replace H := Option.bind_eq_some_iff.mp H
        obtain ⟨t177, A180, H⟩ := H
        replace H : ((spec_sqMask.f kj4 a0_0 a0_1 l0_2 l0_3).bind fun t178 => ((spec_sqAll.f kj4 a0_0 a0_1).bind fun t179 => (spec_SquaresThrough.l0 kj4 t177 t178 0 t179 (t179.length : Int) 0))) = some (r1, r2) := H
        have A18 := Aside0.mk A180
        clear A180
        replace H := Option.bind_eq_some_iff.mp H
        obtain ⟨t178, A190, H⟩ := H
        replace H : ((spec_sqAll.f kj4 a0_0 a0_1).bind fun t179 => (spec_SquaresThrough.l0 kj4 t177 t178 0 t179 (t179.length : Int) 0)) = some (r1, r2) := H
        have A19 := Aside0.mk A190
        clear A190
        replace H := Option.bind_eq_some_iff.mp H
        obtain ⟨t179, A200, H⟩ := H
        replace H : (spec_SquaresThrough.l0 kj4 t177 t178 0 t179 (t179.length : Int) 0) = some (r1, r2) := H
        have A20 := Aside0.mk A200
        clear A200
        have H' := Aside0.mk H
        clear H
        have hcz21_0 : wc.cell? ⟨gb172, 0, none⟩ = some (.int .i64 a0_0) := (blk_cell BK172.out 0).trans rfl
        have hcz21_1 : wc.cell? ⟨gb172, 1, none⟩ = some (.int .i64 a0_1) := (blk_cell BK172.out 1).trans rfl
        have hcz21_2 : wc.cell? ⟨gb172, 2, none⟩ = some (.slice A0_2 l0_2.length c0_2) := (blk_cell BK172.out 2).trans rfl
        have hcz21_3 : wc.cell? ⟨gb172, 3, none⟩ = some (.slice A0_3 l0_3.length c0_3) := (blk_cell BK172.out 3).trans rfl
        have hfz21_0 := blk_frozen BK172.out 0
        have hfz21_1 := blk_frozen BK172.out 1
        have hfz21_2 := blk_frozen BK172.out 2
        have hfz21_3 := blk_frozen BK172.out 3
        try go_wp2_with (first | ((with_reducible refine gate_callee (f := 91) rfl ?_); refine goesL_ (some 36) rfl rfl Try.func91 (by kernel_rfl) rfl #[.agg #[.int .i64 a0_0, .int .i64 a0_1, .slice A0_2 l0_2.length c0_2, .slice A0_3 l0_3.length c0_3], .bool a1, .int .i64 a2, .int .i64 a3] rfl (by (try simp only [List.map_toArray, List.map_cons, List.map_nil]); first | done | rfl | (simp only [List.length_drop, List.length_take]; rfl)) ?_; (with_reducible refine (spec_fiEdge.calls a0_0 a0_1 _ _ l0_2 _ _ l0_3 a1 a2 a3 t175 t176 _ ?side1 ?side2 ?side3 ?side4 A17.out).mono ?_); (case side1 => repeat (first | exact (Kd.C_below HR0_2.out HB.out) | (with_reducible refine Kd.C_alloc ?_ _) | (with_reducible refine Kd.C_drewN ?_ _) | (with_reducible refine Kd.C_drew ?_))); (case side2 => exact HC0_2.out); (case side3 => repeat (first | exact (Kd.C_below HR0_3.out HB.out) | (with_reducible refine Kd.C_alloc ?_ _) | (with_reducible refine Kd.C_drewN ?_ _) | (with_reducible refine Kd.C_drew ?_))); (case side4 => exact HC0_3.out); rintro e w22 ⟨rfl, hb⟩; refine ⟨_, rfl, ?_⟩; have n0_ := Aside0.mk (blk_below (g := gb172) (o := .cells #[.int .i64 a0_0, .int .i64 a0_1, .slice A0_2 l0_2.length c0_2, .slice A0_3 l0_3.length c0_3] 28 (0, 0)) (by (with_reducible repeat (first | refine blk_drewN ?_ _ | refine blk_drew ?_ | refine blk_alloc ?_ _)); exact BK172.out) hb); have n1_ := Aside0.mk (below_step (by repeat (first | (with_reducible first | exact HB.out | apply below_alloc | apply pw_below_drewN | apply below_drew1 | refine below_set ?_ GE172.out) | exact HB.out)) hb); clear BK172; clear HB; have BK172 := n0_; have HB := n1_; clear n0_ n1_; (try clear hb); (try clear hb2); (try clear hk); (try clear hi)))
        have n0_ := Aside0.mk (blk_drew BK172.out)
        have n1_ := Aside0.mk (below_drew1 HB.out)
        clear BK172
        clear HB
        have BK172 := n0_
        have HB := n1_
        clear n0_ n1_
        refine start_ (n := 11) (S := fun w' => w'.cell? ⟨gb172, 0, none⟩ = some (.int .i64 a0_0) ∧ w'.cell? ⟨gb172, 1, none⟩ = some (.int .i64 a0_1) ∧ w'.cell? ⟨gb172, 2, none⟩ = some (.slice A0_2 l0_2.length c0_2) ∧ w'.cell? ⟨gb172, 3, none⟩ = some (.slice A0_3 l0_3.length c0_3)) (ds := []) #[false, false, false, false, false, false, false, false, false, false, false] (by kernel_rfl) rfl rfl ⟨(blk_cell BK172.out 0).trans rfl, (blk_cell BK172.out 1).trans rfl, (blk_cell BK172.out 2).trans rfl, (blk_cell BK172.out 3).trans rfl⟩ (fun hHeld => ?_); refine with_tabW spec_SquaresThrough.tab4 spec_SquaresThrough.bits4 (fun HT_ HW_ => ?_)
        generalize w22.drew = w23 at BK172 HB hHeld ⊢
        refine pure_ (i := 0) (N := some 39) (v := ?_) (a' := ?_) #[true, false, false, false, false, false, false, false, false, false, false] rfl rfl (any_of HT_.out (by kernel_rfl)) (fun _ _ _ h => h) (Or.inl ⟨by rfl, ?_⟩) ?_ ?_
        rotate_left
        · intro w'
          go_simp
          with_reducible rfl
        rotate_left
        · simp only [Act.put, List.setIfInBounds_toArray, List.set_cons_zero, List.set_cons_succ, i64_w, i32_w]
          rfl
        refine pure_ (i := 2) (N := some 41) (v := ?_) (a' := ?_) #[true, false, true, false, false, false, false, false, false, false, false] rfl rfl (any_of HT_.out (by kernel_rfl)) (fun _ _ _ h => h) (Or.inl ⟨by rfl, ?_⟩) ?_ ?_
        rotate_left
        · intro w'
          go_simp
          with_reducible rfl
        rotate_left
        · simp only [Act.put, List.setIfInBounds_toArray, List.set_cons_zero, List.set_cons_succ, i64_w, i32_w]
          rfl
        refine pure_ (i := 4) (N := some 43) (v := ?_) (a' := ?_) #[true, false, true, false, true, false, false, false, false, false, false] rfl rfl (any_of HT_.out (by kernel_rfl)) (fun _ _ _ h => h) (Or.inl ⟨by rfl, ?_⟩) ?_ ?_
        rotate_left
        · intro w'
          go_simp
          with_reducible rfl
        rotate_left
        · simp only [Act.put, List.setIfInBounds_toArray, List.set_cons_zero, List.set_cons_succ, i64_w, i32_w]
          rfl
        refine pure_ (i := 5) (N := some 44) (v := ?_) (a' := ?_) #[true, false, true, false, true, true, false, false, false, false, false] rfl rfl (any_of HT_.out (by kernel_rfl)) (fun _ _ _ h => h) (Or.inl ⟨by rfl, ?_⟩) ?_ ?_
        rotate_left
        · intro w'
          go_simp
          with_reducible rfl
        rotate_left
        · simp only [Act.put, List.setIfInBounds_toArray, List.set_cons_zero, List.set_cons_succ, i64_w, i32_w]
          rfl
        refine take_ (i := 1) (N := some 40) (v := ?_) (a' := ?_) #[true, true, true, false, true, true, false, false, false, false, false] rfl rfl (take_ofW HT_.out HW_.out (by kernel_rfl)) (fun _ _ _ h => h) (Or.inl ⟨by rfl, ?_⟩) hHeld ?_ ?_
        rotate_left
        · rintro w' ⟨s0, s1, s2, s3⟩
          go_simp
          with_reducible rfl
        rotate_left
        · simp only [Act.put, List.setIfInBounds_toArray, List.set_cons_zero, List.set_cons_succ, i64_w, i32_w]
          rfl
        refine take_ (i := 3) (N := some 42) (v := ?_) (a' := ?_) #[true, true, true, true, true, true, false, false, false, false, false] rfl rfl (take_ofW HT_.out HW_.out (by kernel_rfl)) (fun _ _ _ h => h) (Or.inl ⟨by rfl, ?_⟩) hHeld ?_ ?_
        rotate_left
        · rintro w' ⟨s0, s1, s2, s3⟩
          go_simp
          with_reducible rfl
        rotate_left
        · simp only [Act.put, List.setIfInBounds_toArray, List.set_cons_zero, List.set_cons_succ, i64_w, i32_w]
          rfl
        refine take_ (i := 7) (N := some 46) (v := ?_) (a' := ?_) #[true, true, true, true, true, true, false, true, false, false, false] rfl rfl (take_ofW HT_.out HW_.out (by kernel_rfl)) (fun _ _ _ h => h) (Or.inl ⟨by rfl, ?_⟩) hHeld ?_ ?_
        rotate_left
        · rintro w' ⟨s0, s1, s2, s3⟩
          go_simp
          with_reducible rfl
        rotate_left
        · simp only [Act.put, List.setIfInBounds_toArray, List.set_cons_zero, List.set_cons_succ, i64_w, i32_w]
          rfl
        refine one_ (i := 6) (N := some 45) #[true, true, true, true, true, true, true, true, false, false, false] rfl rfl (one_of HT_.out (by kernel_rfl)) (by decide) (fun K hK => ?_)
        refine goes_ Try.func92 (by kernel_rfl) rfl #[.int .i64 a0_0, .int .i64 a0_1, .bool a1, .int .i64 t175] (by rfl) rfl rfl (by (try simp only [List.map_toArray, List.map_cons, List.map_nil]); first | done | rfl | (simp only [List.length_drop, List.length_take]; rfl)) ?_
        with_reducible refine (spec_sqBit.calls a0_0 a0_1 a1 t175 t177 _ A18.out).mono ?_
        rintro e w' ⟨rfl, ⟨nd, rfl⟩⟩
        refine ⟨_, rfl, ?_⟩
        refine hK.out _ _ ⟨(blk_cell BK172.out 0).trans rfl, (blk_cell BK172.out 1).trans rfl, (blk_cell BK172.out 2).trans rfl, (blk_cell BK172.out 3).trans rfl⟩ (fun hHeld => ?_)
        clear hK K
        refine norm_ (a' := ?_) ?_ ?_
        rotate_left
        · show Act.put _ (some 45) _ = _
          simp only [Act.put, List.setIfInBounds_toArray, List.set_cons_zero, List.set_cons_succ, i64_w, i32_w]
          rfl
        refine one_ (i := 8) (N := some 47) #[true, true, true, true, true, true, true, true, true, false, false] rfl rfl (one_of HT_.out (by kernel_rfl)) (by decide) (fun K hK => ?_)
        refine goes_ Try.func66 (by kernel_rfl) rfl #[.agg #[.int .i64 a0_0, .int .i64 a0_1, .slice A0_2 l0_2.length c0_2, .slice A0_3 l0_3.length c0_3]] (by rfl) rfl rfl (by (try simp only [List.map_toArray, List.map_cons, List.map_nil]); first | done | rfl | (simp only [List.length_drop, List.length_take]; rfl)) ?_
        with_reducible refine (spec_sqMask.calls kj4 a0_0 a0_1 _ _ l0_2 _ _ l0_3 t178 _ ?side1 ?side2 ?side3 ?side4 A19.out).mono ?_
        (case side1 => repeat (first | exact (Kd.C_below HR0_2.out (by repeat (first | (with_reducible first | exact HB.out | apply below_alloc | apply pw_below_drewN | apply below_drew1 | refine below_set ?_ GE172.out) | exact HB.out))) | (with_reducible refine Kd.C_alloc ?_ _) | (with_reducible refine Kd.C_drewN ?_ _) | (with_reducible refine Kd.C_drew ?_)))
        (case side2 => exact HC0_2.out)
        (case side3 => repeat (first | exact (Kd.C_below HR0_3.out (by repeat (first | (with_reducible first | exact HB.out | apply below_alloc | apply pw_below_drewN | apply below_drew1 | refine below_set ?_ GE172.out) | exact HB.out))) | (with_reducible refine Kd.C_alloc ?_ _) | (with_reducible refine Kd.C_drewN ?_ _) | (with_reducible refine Kd.C_drew ?_)))
        (case side4 => exact HC0_3.out)
        rintro e w24 ⟨rfl, hb⟩
        refine ⟨_, rfl, ?_⟩
        have n0_ := Aside0.mk (blk_below (g := gb172) (o := .cells #[.int .i64 a0_0, .int .i64 a0_1, .slice A0_2 l0_2.length c0_2, .slice A0_3 l0_3.length c0_3] 28 (0, 0)) (by (with_reducible repeat (first | refine blk_drewN ?_ _ | refine blk_drew ?_ | refine blk_alloc ?_ _)); exact BK172.out) hb)
        have n1_ := Aside0.mk (below_step (by repeat (first | (with_reducible first | exact HB.out | apply below_alloc | apply pw_below_drewN | apply below_drew1 | refine below_set ?_ GE172.out) | exact HB.out)) hb)
        clear BK172
        clear HB
        have BK172 := n0_
        have HB := n1_
        clear n0_ n1_
        (try clear hb)
        (try clear hb2)
        (try clear hk)
        (try clear hi)
        refine hK.out _ _ ⟨(blk_cell BK172.out 0).trans rfl, (blk_cell BK172.out 1).trans rfl, (blk_cell BK172.out 2).trans rfl, (blk_cell BK172.out 3).trans rfl⟩ (fun hHeld => ?_)
        clear hK K
        refine norm_ (a' := ?_) ?_ ?_
        rotate_left
        · show Act.put _ (some 47) _ = _
          simp only [Act.put, List.setIfInBounds_toArray, List.set_cons_zero, List.set_cons_succ, i64_w, i32_w]
          rfl
        refine pure_ (i := 9) (N := some 12) (v := ?_) (a' := ?_) #[true, true, true, true, true, true, true, true, true, true, false] rfl rfl (any_of HT_.out (by kernel_rfl)) (fun _ _ _ h => h) (Or.inl ⟨by rfl, ?_⟩) ?_ ?_
        rotate_left
        · intro w'
          go_simp
          with_reducible rfl
        rotate_left
        · simp only [Act.put, List.setIfInBounds_toArray, List.set_cons_zero, List.set_cons_succ, i64_w, i32_w]
          rfl
        refine pure_ (i := 10) (N := some 13) (v := ?_) (a' := ?_) #[true, true, true, true, true, true, true, true, true, true, true] rfl rfl (any_of HT_.out (by kernel_rfl)) (fun _ _ _ h => h) (Or.inl ⟨by rfl, ?_⟩) ?_ ?_
        rotate_left
        · intro w'
          go_simp
          with_reducible rfl
        rotate_left
        · simp only [Act.put, List.setIfInBounds_toArray, List.set_cons_zero, List.set_cons_succ, i64_w, i32_w]
          rfl
        refine done_ (done_of HT_.out (by kernel_rfl)) ?_
        have hcz25_0 : w24.cell? ⟨gb172, 0, none⟩ = some (.int .i64 a0_0) := (blk_cell BK172.out 0).trans rfl
        have hcz25_1 : w24.cell? ⟨gb172, 1, none⟩ = some (.int .i64 a0_1) := (blk_cell BK172.out 1).trans rfl
        have hcz25_2 : w24.cell? ⟨gb172, 2, none⟩ = some (.slice A0_2 l0_2.length c0_2) := (blk_cell BK172.out 2).trans rfl
        have hcz25_3 : w24.cell? ⟨gb172, 3, none⟩ = some (.slice A0_3 l0_3.length c0_3) := (blk_cell BK172.out 3).trans rfl
        have hfz25_0 := blk_frozen BK172.out 0
        have hfz25_1 := blk_frozen BK172.out 1
        have hfz25_2 := blk_frozen BK172.out 2
        have hfz25_3 := blk_frozen BK172.out 3
        try go_wp2_with (first | ((with_reducible refine gate_callee (f := 84) rfl ?_); refine goesL_ (some 52) rfl rfl Try.func84 (by kernel_rfl) rfl #[.int .i64 a0_0, .int .i64 a0_1] rfl (by (try simp only [List.map_toArray, List.map_cons, List.map_nil]); first | done | rfl | (simp only [List.length_drop, List.length_take]; rfl)) ?_; (with_reducible refine (spec_sqAll.calls kj4 a0_0 a0_1 t179 _ A20.out).mono ?_); rintro e w26 ⟨v180, rfl, ho0, hb⟩; refine ⟨_, rfl, ?_⟩; have n0_ := Aside0.mk (Kd.R_lower ho0 (below_size (by repeat (first | (with_reducible first | exact HB.out | apply below_alloc | apply pw_below_drewN | apply below_drew1 | refine below_set ?_ GE172.out) | exact HB.out)))); have n1_ := Aside0.mk (blk_below (g := gb172) (o := .cells #[.int .i64 a0_0, .int .i64 a0_1, .slice A0_2 l0_2.length c0_2, .slice A0_3 l0_3.length c0_3] 28 (0, 0)) (by (with_reducible repeat (first | refine blk_drewN ?_ _ | refine blk_drew ?_ | refine blk_alloc ?_ _)); exact BK172.out) hb); have n2_ := Aside0.mk (below_step (by repeat (first | (with_reducible first | exact HB.out | apply below_alloc | apply pw_below_drewN | apply below_drew1 | refine below_set ?_ GE172.out) | exact HB.out)) hb); clear BK172; clear HB; have HO181 := n0_; have BK172 := n1_; have HB := n2_; clear n0_ n1_ n2_; (try clear hb); (try clear hb2); (try clear hk); (try clear hi); (try clear ho0); obtain ⟨Ao27, co27, eo27⟩ := Kd.R_slice HO181.out; subst eo27))
        go_loopg [14, 54] kj4 (fun kq v14 v54 w' => ∃ (x14_2 : Int) (x54_2 : Int), v14 = .int .i64 x14_2 ∧ v54 = .int .i64 x54_2 ∧ Aside0 (spec_SquaresThrough.l0 kq t177 t178 x14_2 t179 (t179.length : Int) x54_2 = some (r1, r2)) ∧ Aside0 (kq ≤ kj4) ∧ Aside0 (Kd.R k87 87 w' w.heap.size (fun _ => True) (.slice Ao27 t179.length co27) t179) ∧ Aside0 (w'.heap[gb172]? = some (.cells #[.int .i64 a0_0, .int .i64 a0_1, (.slice A0_2 l0_2.length c0_2), (.slice A0_3 l0_3.length c0_3)] 28 (0, 0))) ∧ Aside0 (Below w.heap.size w w'))
        case atStart => exact ⟨(0), (0), (by first | rfl | (simp; done) | (simp [*]; done)), (by first | rfl | (simp; done) | (simp [*]; done)), H', ⟨Nat.le_refl _⟩, ⟨by (with_reducible repeat (first | apply Kd.R_alloc | apply Kd.R_drewN | apply Kd.R_drew)); exact HO181.out⟩, ⟨by (with_reducible repeat (first | refine blk_drewN ?_ _ | refine blk_drew ?_ | refine blk_alloc ?_ _)); exact BK172.out⟩, ⟨by repeat (first | (with_reducible first | exact HB.out | apply below_alloc | apply pw_below_drewN | apply below_drew1 | refine below_set ?_ GE172.out) | exact HB.out)⟩⟩
        case round =>
          clear H'
          try clear c1
          try clear p2
          try clear c3
          try clear c6
          try clear c8
          try clear c9
          try clear c16
          try clear hcz10_0
          try clear hcz10_1
          try clear hcz10_2
          try clear hcz10_3
          try clear hcz12_0
          try clear hcz12_1
          try clear hcz12_2
          try clear hcz12_3
          try clear hcz14_0
          try clear hcz14_1
          try clear hcz14_2
          try clear hcz14_3
          try clear hcz21_0
          try clear hcz21_1
          try clear hcz21_2
          try clear hcz21_3
          try clear hcz25_0
          try clear hcz25_1
          try clear hcz25_2
          try clear hcz25_3
          try clear hfz10_0
          try clear hfz10_1
          try clear hfz10_2
          try clear hfz10_3
          try clear hfz12_0
          try clear hfz12_1
          try clear hfz12_2
          try clear hfz12_3
          try clear hfz14_0
          try clear hfz14_1
          try clear hfz14_2
          try clear hfz14_3
          try clear hfz21_0
          try clear hfz21_1
          try clear hfz21_2
          try clear hfz21_3
          try clear hfz25_0
          try clear hfz25_1
          try clear hfz25_2
          try clear hfz25_3
          try clear p2
          obtain ⟨x14_2, x54_2, rfl, rfl, HA, HK2, HO_52, BK172, HB⟩ := hrel
          cases gk with
          | zero => exact absurd HA.out (by simp [spec_SquaresThrough.l0])
          | succ k2 =>
            have H := HA.out
            clear HA
            simp only [spec_SquaresThrough.l0] at H
            by_cases c28 : x54_2 < (t179.length : Int)
            · rw [if_pos c28] at H
              have c28b0 : decide (x54_2 < (t179.length : Int)) = true := decide_eq_true c28
              clear c28
              by_cases c29 : 0 ≤ x54_2
              · rw [if_pos c29] at H
                have c29b0 : decide (0 ≤ x54_2) = true := decide_eq_true c29
                clear c29
                by_cases c30 : x54_2 < (t179.length : Int)
                · rw [if_pos c30] at H
                  have c30b0 : decide (x54_2 < (t179.length : Int)) = true := decide_eq_true c30
                  clear c30
                  by_cases c31 : (Go.bits .and .i64 t178 ((rd_T87 t179 x54_2).f3)) = ((rd_T87 t179 x54_2).f3)
                  · rw [if_pos c31] at H
                    have c31b0 : ((Go.bits .and .i64 t178 ((rd_T87 t179 x54_2).f3)) == ((rd_T87 t179 x54_2).f3)) = true := beq_iff_eq.mpr c31
                    have c31b1 : ((Go.bits .and .i64 t178 ((rd_T87 t179 x54_2).f3)) != ((rd_T87 t179 x54_2).f3)) = false := bne_eq_false_iff_eq.mpr c31
                    clear c31
                    by_cases c32 : (Go.bits .and .i64 ((rd_T87 t179 x54_2).f3) t177) = 0
                    · rw [if_pos c32] at H
                      have c32b0 : ((Go.bits .and .i64 ((rd_T87 t179 x54_2).f3) t177) == 0) = true := beq_iff_eq.mpr c32
                      have c32b1 : ((Go.bits .and .i64 ((rd_T87 t179 x54_2).f3) t177) != 0) = false := bne_eq_false_iff_eq.mpr c32
                      clear c32
                      have H' := Aside0.mk H
                      clear H
                      have p182 : 0 ≤ (x54_2 : Int) := of_decide_eq_true (by first | (with_reducible assumption) | assumption)
                      have q182 : x54_2 < (t179.length : Int) := of_decide_eq_true (by first | (with_reducible assumption) | assumption)
                      obtain ⟨ad182, e182, hx182_0, hx182_1, hx182_2, hx182_3⟩ := at_T87 (Kd.R_reads' HO_52.out).2.2 x54_2 p182 q182
                      cases e182
                      replace p182 := eq_true p182
                      replace q182 := eq_true q182
                      go_wp2_with (first | ((with_reducible refine gate_dst (N := 16) rfl ?_); refine box_event ?hg (N := 16) ?hd (cs := #[.int .i64 0, .int .i64 0, .int .i64 0, .int .i64 0]) (t := 87) ?hr ?_; (case hd => rfl); (case hg => rfl); (case hr => first | (go_simp; done) | (go_simp; rfl)); intro gb183 hg w33 hbox hb; have n0_ := Aside0.mk (Kd.R_below (Kd.R_elderB (by (with_reducible repeat (first | apply Kd.R_alloc | apply Kd.R_drewN | apply Kd.R_drew)); exact HO_52.out) gb183 (Nat.le_of_eq hg.symm)) hb); have n1_ := Aside0.mk (blk_below (g := gb172) (o := .cells #[.int .i64 a0_0, .int .i64 a0_1, .slice A0_2 l0_2.length c0_2, .slice A0_3 l0_3.length c0_3] 28 (0, 0)) (by (with_reducible repeat (first | refine blk_drewN ?_ _ | refine blk_drew ?_ | refine blk_alloc ?_ _)); exact BK172.out) hb); have n2_ := Aside0.mk (below_step (by repeat (first | (with_reducible first | exact HB.out | apply below_alloc | apply pw_below_drewN | apply below_drew1 | refine below_set ?_ GE172.out) | exact HB.out)) hb); have n3_ := Aside0.mk (hbox); have n4_ := Aside0.mk ((by rw [hg]; exact (below_size (by repeat (first | (with_reducible first | exact HB.out | apply below_alloc | apply pw_below_drewN | apply below_drew1 | refine below_set ?_ GE172.out) | exact HB.out))) : w.heap.size ≤ gb183)); have n5_ := Aside0.mk ((by rw [hg]; exact (below_size (by repeat (first | (with_reducible first | exact HB.out | apply below_alloc | apply pw_below_drewN | apply below_drew1 | refine below_set ?_ GE172.out) | exact HB.out))) : w.heap.size ≤ gb183)); have n6_ := Aside0.mk ((by rw [hg]; exact Nat.ne_of_lt (blk_lt (g := gb172) (o := .cells #[.int .i64 a0_0, .int .i64 a0_1, .slice A0_2 l0_2.length c0_2, .slice A0_3 l0_3.length c0_3] 28 (0, 0)) (by (with_reducible repeat (first | refine blk_drewN ?_ _ | refine blk_drew ?_ | refine blk_alloc ?_ _)); exact BK172.out)) : gb172 ≠ gb183)); have n7_ := Aside0.mk ((by rw [hg]; exact Nat.ne_of_gt (blk_lt (g := gb172) (o := .cells #[.int .i64 a0_0, .int .i64 a0_1, .slice A0_2 l0_2.length c0_2, .slice A0_3 l0_3.length c0_3] 28 (0, 0)) (by (with_reducible repeat (first | refine blk_drewN ?_ _ | refine blk_drew ?_ | refine blk_alloc ?_ _)); exact BK172.out)) : gb183 ≠ gb172)); clear HO_52; clear BK172; clear HB; have HO_52 := n0_; have BK172 := n1_; have HB := n2_; have BK183 := n3_; have GW183 := n4_; have GE183 := n5_; have NB172_183 := n6_; have NB183_172 := n7_; clear n0_ n1_ n2_ n3_ n4_ n5_ n6_ n7_; clear hb hbox hg; have hnb34 := NB183_172.out; have hnc34 := NB172_183.out; have hcz35_0 : w33.cell? ⟨gb183, 0, none⟩ = some (.int .i64 0) := (blk_cell BK183.out 0).trans rfl; have hcz35_1 : w33.cell? ⟨gb183, 1, none⟩ = some (.int .i64 0) := (blk_cell BK183.out 1).trans rfl; have hcz35_2 : w33.cell? ⟨gb183, 2, none⟩ = some (.int .i64 0) := (blk_cell BK183.out 2).trans rfl; have hcz35_3 : w33.cell? ⟨gb183, 3, none⟩ = some (.int .i64 0) := (blk_cell BK183.out 3).trans rfl; have hfz35_0 := blk_frozen BK183.out 0; have hfz35_1 := blk_frozen BK183.out 1; have hfz35_2 := blk_frozen BK183.out 2; have hfz35_3 := blk_frozen BK183.out 3))
                      go_roundg k2
                      case measure => have := HJ4.out; have := HK2.out; omega
                      case rel => exact ⟨(x14_2), (wrap64 (x54_2 + 1)), (by first | rfl | (simp; done) | (simp [*]; done)), (by first | rfl | (simp; done) | (simp [*]; done)), H', ⟨by have := HJ4.out; have := HK2.out; omega⟩, ⟨by (with_reducible repeat (first | apply Kd.R_alloc | apply Kd.R_drewN | apply Kd.R_drew)); exact Kd.R_mono (Kd.R_far (p := ⟨gb183, 3, none⟩) (Kd.R_far (p := ⟨gb183, 2, none⟩) (Kd.R_far (p := ⟨gb183, 1, none⟩) (Kd.R_far (p := ⟨gb183, 0, none⟩) (Kd.R_mono HO_52.out (fun k_ hk => (⟨hk, hk.2⟩ : _ ∧ k_ ≠ gb183))) (fun _ hk => hk.2) (.int .i64 ((rd_T87 t179 x54_2).f0))) (fun _ hk => hk.2) (.int .i64 ((rd_T87 t179 x54_2).f1))) (fun _ hk => hk.2) (.int .i64 ((rd_T87 t179 x54_2).f2))) (fun _ hk => hk.2) (.int .i64 ((rd_T87 t179 x54_2).f3))) (fun _ hk => trivial)⟩, ⟨by (with_reducible repeat (first | refine blk_drewN ?_ _ | refine blk_drew ?_ | refine blk_alloc ?_ _)); refine blk_far ?_ NB172_183.out _; (with_reducible repeat (first | refine blk_drewN ?_ _ | refine blk_drew ?_ | refine blk_alloc ?_ _)); refine blk_far ?_ NB172_183.out _; (with_reducible repeat (first | refine blk_drewN ?_ _ | refine blk_drew ?_ | refine blk_alloc ?_ _)); refine blk_far ?_ NB172_183.out _; (with_reducible repeat (first | refine blk_drewN ?_ _ | refine blk_drew ?_ | refine blk_alloc ?_ _)); refine blk_far ?_ NB172_183.out _; (with_reducible repeat (first | refine blk_drewN ?_ _ | refine blk_drew ?_ | refine blk_alloc ?_ _)); exact BK172.out⟩, ⟨by repeat (first | (with_reducible first | exact HB.out | apply below_alloc | apply pw_below_drewN | apply below_drew1 | refine below_set ?_ GE172.out | refine below_set ?_ GE183.out) | exact HB.out)⟩⟩
                    · rw [if_neg c32] at H
                      have c32b0 : ((Go.bits .and .i64 ((rd_T87 t179 x54_2).f3) t177) == 0) = false := beq_eq_false_iff_ne.mpr c32
                      have c32b1 : ((Go.bits .and .i64 ((rd_T87 t179 x54_2).f3) t177) != 0) = true := bne_iff_ne.mpr c32
                      have H' := Aside0.mk H
                      clear H
                      have p182 : 0 ≤ (x54_2 : Int) := of_decide_eq_true (by first | (with_reducible assumption) | assumption)
                      have q182 : x54_2 < (t179.length : Int) := of_decide_eq_true (by first | (with_reducible assumption) | assumption)
                      obtain ⟨ad182, e182, hx182_0, hx182_1, hx182_2, hx182_3⟩ := at_T87 (Kd.R_reads' HO_52.out).2.2 x54_2 p182 q182
                      cases e182
                      replace p182 := eq_true p182
                      replace q182 := eq_true q182
                      go_wp2_with (first | ((with_reducible refine gate_dst (N := 16) rfl ?_); refine box_event ?hg (N := 16) ?hd (cs := #[.int .i64 0, .int .i64 0, .int .i64 0, .int .i64 0]) (t := 87) ?hr ?_; (case hd => rfl); (case hg => rfl); (case hr => first | (go_simp; done) | (go_simp; rfl)); intro gb183 hg w36 hbox hb; have n0_ := Aside0.mk (Kd.R_below (Kd.R_elderB (by (with_reducible repeat (first | apply Kd.R_alloc | apply Kd.R_drewN | apply Kd.R_drew)); exact HO_52.out) gb183 (Nat.le_of_eq hg.symm)) hb); have n1_ := Aside0.mk (blk_below (g := gb172) (o := .cells #[.int .i64 a0_0, .int .i64 a0_1, .slice A0_2 l0_2.length c0_2, .slice A0_3 l0_3.length c0_3] 28 (0, 0)) (by (with_reducible repeat (first | refine blk_drewN ?_ _ | refine blk_drew ?_ | refine blk_alloc ?_ _)); exact BK172.out) hb); have n2_ := Aside0.mk (below_step (by repeat (first | (with_reducible first | exact HB.out | apply below_alloc | apply pw_below_drewN | apply below_drew1 | refine below_set ?_ GE172.out) | exact HB.out)) hb); have n3_ := Aside0.mk (hbox); have n4_ := Aside0.mk ((by rw [hg]; exact (below_size (by repeat (first | (with_reducible first | exact HB.out | apply below_alloc | apply pw_below_drewN | apply below_drew1 | refine below_set ?_ GE172.out) | exact HB.out))) : w.heap.size ≤ gb183)); have n5_ := Aside0.mk ((by rw [hg]; exact (below_size (by repeat (first | (with_reducible first | exact HB.out | apply below_alloc | apply pw_below_drewN | apply below_drew1 | refine below_set ?_ GE172.out) | exact HB.out))) : w.heap.size ≤ gb183)); have n6_ := Aside0.mk ((by rw [hg]; exact Nat.ne_of_lt (blk_lt (g := gb172) (o := .cells #[.int .i64 a0_0, .int .i64 a0_1, .slice A0_2 l0_2.length c0_2, .slice A0_3 l0_3.length c0_3] 28 (0, 0)) (by (with_reducible repeat (first | refine blk_drewN ?_ _ | refine blk_drew ?_ | refine blk_alloc ?_ _)); exact BK172.out)) : gb172 ≠ gb183)); have n7_ := Aside0.mk ((by rw [hg]; exact Nat.ne_of_gt (blk_lt (g := gb172) (o := .cells #[.int .i64 a0_0, .int .i64 a0_1, .slice A0_2 l0_2.length c0_2, .slice A0_3 l0_3.length c0_3] 28 (0, 0)) (by (with_reducible repeat (first | refine blk_drewN ?_ _ | refine blk_drew ?_ | refine blk_alloc ?_ _)); exact BK172.out)) : gb183 ≠ gb172)); clear HO_52; clear BK172; clear HB; have HO_52 := n0_; have BK172 := n1_; have HB := n2_; have BK183 := n3_; have GW183 := n4_; have GE183 := n5_; have NB172_183 := n6_; have NB183_172 := n7_; clear n0_ n1_ n2_ n3_ n4_ n5_ n6_ n7_; clear hb hbox hg; have hnb37 := NB183_172.out; have hnc37 := NB172_183.out; have hcz38_0 : w36.cell? ⟨gb183, 0, none⟩ = some (.int .i64 0) := (blk_cell BK183.out 0).trans rfl; have hcz38_1 : w36.cell? ⟨gb183, 1, none⟩ = some (.int .i64 0) := (blk_cell BK183.out 1).trans rfl; have hcz38_2 : w36.cell? ⟨gb183, 2, none⟩ = some (.int .i64 0) := (blk_cell BK183.out 2).trans rfl; have hcz38_3 : w36.cell? ⟨gb183, 3, none⟩ = some (.int .i64 0) := (blk_cell BK183.out 3).trans rfl; have hfz38_0 := blk_frozen BK183.out 0; have hfz38_1 := blk_frozen BK183.out 1; have hfz38_2 := blk_frozen BK183.out 2; have hfz38_3 := blk_frozen BK183.out 3))
                      go_roundg k2
                      case measure => have := HJ4.out; have := HK2.out; omega
                      case rel => exact ⟨(wrap64 (x14_2 + 1)), (wrap64 (x54_2 + 1)), (by first | rfl | (simp; done) | (simp [*]; done)), (by first | rfl | (simp; done) | (simp [*]; done)), H', ⟨by have := HJ4.out; have := HK2.out; omega⟩, ⟨by (with_reducible repeat (first | apply Kd.R_alloc | apply Kd.R_drewN | apply Kd.R_drew)); exact Kd.R_mono (Kd.R_far (p := ⟨gb183, 3, none⟩) (Kd.R_far (p := ⟨gb183, 2, none⟩) (Kd.R_far (p := ⟨gb183, 1, none⟩) (Kd.R_far (p := ⟨gb183, 0, none⟩) (Kd.R_mono HO_52.out (fun k_ hk => (⟨hk, hk.2⟩ : _ ∧ k_ ≠ gb183))) (fun _ hk => hk.2) (.int .i64 ((rd_T87 t179 x54_2).f0))) (fun _ hk => hk.2) (.int .i64 ((rd_T87 t179 x54_2).f1))) (fun _ hk => hk.2) (.int .i64 ((rd_T87 t179 x54_2).f2))) (fun _ hk => hk.2) (.int .i64 ((rd_T87 t179 x54_2).f3))) (fun _ hk => trivial)⟩, ⟨by (with_reducible repeat (first | refine blk_drewN ?_ _ | refine blk_drew ?_ | refine blk_alloc ?_ _)); refine blk_far ?_ NB172_183.out _; (with_reducible repeat (first | refine blk_drewN ?_ _ | refine blk_drew ?_ | refine blk_alloc ?_ _)); refine blk_far ?_ NB172_183.out _; (with_reducible repeat (first | refine blk_drewN ?_ _ | refine blk_drew ?_ | refine blk_alloc ?_ _)); refine blk_far ?_ NB172_183.out _; (with_reducible repeat (first | refine blk_drewN ?_ _ | refine blk_drew ?_ | refine blk_alloc ?_ _)); refine blk_far ?_ NB172_183.out _; (with_reducible repeat (first | refine blk_drewN ?_ _ | refine blk_drew ?_ | refine blk_alloc ?_ _)); exact BK172.out⟩, ⟨by repeat (first | (with_reducible first | exact HB.out | apply below_alloc | apply pw_below_drewN | apply below_drew1 | refine below_set ?_ GE172.out | refine below_set ?_ GE183.out) | exact HB.out)⟩⟩
                  · rw [if_neg c31] at H
                    have c31b0 : ((Go.bits .and .i64 t178 ((rd_T87 t179 x54_2).f3)) == ((rd_T87 t179 x54_2).f3)) = false := beq_eq_false_iff_ne.mpr c31
                    have c31b1 : ((Go.bits .and .i64 t178 ((rd_T87 t179 x54_2).f3)) != ((rd_T87 t179 x54_2).f3)) = true := bne_iff_ne.mpr c31
                    have H' := Aside0.mk H
                    clear H
                    have p182 : 0 ≤ (x54_2 : Int) := of_decide_eq_true (by first | (with_reducible assumption) | assumption)
                    have q182 : x54_2 < (t179.length : Int) := of_decide_eq_true (by first | (with_reducible assumption) | assumption)
                    obtain ⟨ad182, e182, hx182_0, hx182_1, hx182_2, hx182_3⟩ := at_T87 (Kd.R_reads' HO_52.out).2.2 x54_2 p182 q182
                    cases e182
                    replace p182 := eq_true p182
                    replace q182 := eq_true q182
                    go_wp2_with (first | ((with_reducible refine gate_dst (N := 16) rfl ?_); refine box_event ?hg (N := 16) ?hd (cs := #[.int .i64 0, .int .i64 0, .int .i64 0, .int .i64 0]) (t := 87) ?hr ?_; (case hd => rfl); (case hg => rfl); (case hr => first | (go_simp; done) | (go_simp; rfl)); intro gb183 hg w39 hbox hb; have n0_ := Aside0.mk (Kd.R_below (Kd.R_elderB (by (with_reducible repeat (first | apply Kd.R_alloc | apply Kd.R_drewN | apply Kd.R_drew)); exact HO_52.out) gb183 (Nat.le_of_eq hg.symm)) hb); have n1_ := Aside0.mk (blk_below (g := gb172) (o := .cells #[.int .i64 a0_0, .int .i64 a0_1, .slice A0_2 l0_2.length c0_2, .slice A0_3 l0_3.length c0_3] 28 (0, 0)) (by (with_reducible repeat (first | refine blk_drewN ?_ _ | refine blk_drew ?_ | refine blk_alloc ?_ _)); exact BK172.out) hb); have n2_ := Aside0.mk (below_step (by repeat (first | (with_reducible first | exact HB.out | apply below_alloc | apply pw_below_drewN | apply below_drew1 | refine below_set ?_ GE172.out) | exact HB.out)) hb); have n3_ := Aside0.mk (hbox); have n4_ := Aside0.mk ((by rw [hg]; exact (below_size (by repeat (first | (with_reducible first | exact HB.out | apply below_alloc | apply pw_below_drewN | apply below_drew1 | refine below_set ?_ GE172.out) | exact HB.out))) : w.heap.size ≤ gb183)); have n5_ := Aside0.mk ((by rw [hg]; exact (below_size (by repeat (first | (with_reducible first | exact HB.out | apply below_alloc | apply pw_below_drewN | apply below_drew1 | refine below_set ?_ GE172.out) | exact HB.out))) : w.heap.size ≤ gb183)); have n6_ := Aside0.mk ((by rw [hg]; exact Nat.ne_of_lt (blk_lt (g := gb172) (o := .cells #[.int .i64 a0_0, .int .i64 a0_1, .slice A0_2 l0_2.length c0_2, .slice A0_3 l0_3.length c0_3] 28 (0, 0)) (by (with_reducible repeat (first | refine blk_drewN ?_ _ | refine blk_drew ?_ | refine blk_alloc ?_ _)); exact BK172.out)) : gb172 ≠ gb183)); have n7_ := Aside0.mk ((by rw [hg]; exact Nat.ne_of_gt (blk_lt (g := gb172) (o := .cells #[.int .i64 a0_0, .int .i64 a0_1, .slice A0_2 l0_2.length c0_2, .slice A0_3 l0_3.length c0_3] 28 (0, 0)) (by (with_reducible repeat (first | refine blk_drewN ?_ _ | refine blk_drew ?_ | refine blk_alloc ?_ _)); exact BK172.out)) : gb183 ≠ gb172)); clear HO_52; clear BK172; clear HB; have HO_52 := n0_; have BK172 := n1_; have HB := n2_; have BK183 := n3_; have GW183 := n4_; have GE183 := n5_; have NB172_183 := n6_; have NB183_172 := n7_; clear n0_ n1_ n2_ n3_ n4_ n5_ n6_ n7_; clear hb hbox hg; have hnb40 := NB183_172.out; have hnc40 := NB172_183.out; have hcz41_0 : w39.cell? ⟨gb183, 0, none⟩ = some (.int .i64 0) := (blk_cell BK183.out 0).trans rfl; have hcz41_1 : w39.cell? ⟨gb183, 1, none⟩ = some (.int .i64 0) := (blk_cell BK183.out 1).trans rfl; have hcz41_2 : w39.cell? ⟨gb183, 2, none⟩ = some (.int .i64 0) := (blk_cell BK183.out 2).trans rfl; have hcz41_3 : w39.cell? ⟨gb183, 3, none⟩ = some (.int .i64 0) := (blk_cell BK183.out 3).trans rfl; have hfz41_0 := blk_frozen BK183.out 0; have hfz41_1 := blk_frozen BK183.out 1; have hfz41_2 := blk_frozen BK183.out 2; have hfz41_3 := blk_frozen BK183.out 3))
                    go_roundg k2
                    case measure => have := HJ4.out; have := HK2.out; omega
                    case rel => exact ⟨(x14_2), (wrap64 (x54_2 + 1)), (by first | rfl | (simp; done) | (simp [*]; done)), (by first | rfl | (simp; done) | (simp [*]; done)), H', ⟨by have := HJ4.out; have := HK2.out; omega⟩, ⟨by (with_reducible repeat (first | apply Kd.R_alloc | apply Kd.R_drewN | apply Kd.R_drew)); exact Kd.R_mono (Kd.R_far (p := ⟨gb183, 3, none⟩) (Kd.R_far (p := ⟨gb183, 2, none⟩) (Kd.R_far (p := ⟨gb183, 1, none⟩) (Kd.R_far (p := ⟨gb183, 0, none⟩) (Kd.R_mono HO_52.out (fun k_ hk => (⟨hk, hk.2⟩ : _ ∧ k_ ≠ gb183))) (fun _ hk => hk.2) (.int .i64 ((rd_T87 t179 x54_2).f0))) (fun _ hk => hk.2) (.int .i64 ((rd_T87 t179 x54_2).f1))) (fun _ hk => hk.2) (.int .i64 ((rd_T87 t179 x54_2).f2))) (fun _ hk => hk.2) (.int .i64 ((rd_T87 t179 x54_2).f3))) (fun _ hk => trivial)⟩, ⟨by (with_reducible repeat (first | refine blk_drewN ?_ _ | refine blk_drew ?_ | refine blk_alloc ?_ _)); refine blk_far ?_ NB172_183.out _; (with_reducible repeat (first | refine blk_drewN ?_ _ | refine blk_drew ?_ | refine blk_alloc ?_ _)); refine blk_far ?_ NB172_183.out _; (with_reducible repeat (first | refine blk_drewN ?_ _ | refine blk_drew ?_ | refine blk_alloc ?_ _)); refine blk_far ?_ NB172_183.out _; (with_reducible repeat (first | refine blk_drewN ?_ _ | refine blk_drew ?_ | refine blk_alloc ?_ _)); refine blk_far ?_ NB172_183.out _; (with_reducible repeat (first | refine blk_drewN ?_ _ | refine blk_drew ?_ | refine blk_alloc ?_ _)); exact BK172.out⟩, ⟨by repeat (first | (with_reducible first | exact HB.out | apply below_alloc | apply pw_below_drewN | apply below_drew1 | refine below_set ?_ GE172.out | refine below_set ?_ GE183.out) | exact HB.out)⟩⟩
                · rw [if_neg c30] at H
                  exact absurd H (by simp)
              · rw [if_neg c29] at H
                exact absurd H (by simp)
            · rw [if_neg c28] at H
              have c28b0 : decide (x54_2 < (t179.length : Int)) = false := decide_eq_false c28
              clear c28
              simp only [Option.some.injEq, Prod.mk.injEq] at H
              obtain ⟨rfl, rfl⟩ := H
              go_wp2
              go_ret2
              exact ⟨by first | rfl | (simp [errW_none, errW_some] <;> rfl) | (simp [*, errW_none, errW_some] <;> rfl), by repeat (first | (with_reducible first | exact HB.out | apply below_alloc | apply pw_below_drewN | apply below_drew1 | refine below_set ?_ GE172.out) | exact HB.out)⟩

end Go.Proofs.Ytjhndaehdbjgkaa.P


namespace Go.Proofs.Ytjhndaehdbjgkaa.P
open Go.RowKit Go.Proofs.YtjhndaehdbjgkaaW.PrintWords Go.Proofs.YtjhndaehdbjgkaaW.PrintLast Go.Proofs.YtjhndaehdbjgkaaW.PrintMore
attribute [local go_sem] max2_int min2_int max_two min_two max_three min_three max_four min_four   -- for this text's walks alone
set_option linter.unusedVariables false
set_option linter.unusedSimpArgs false

theorem up_rounds {α : Type} {f : Nat → Option α} (hm : ∀ k, LeO (f k) (f (k + 1))) {k k' : Nat} (h : k ≤ k') {r : α} (hr : f k = some r) : f k' = some r := by
  induction k' with
  | zero => obtain rfl : k = 0 := by omega
            exact hr
  | succ n ih =>
    by_cases e : k = n + 1
    · subst e; exact hr
    · exact hm n r (ih (by omega))
def risingB : List Int → Bool
  | a :: b :: t => decide (a < b) && risingB (b :: t)
  | _ => true
def inB (lo hi : Int) (l : List Int) : Bool := l.all fun x => decide (lo ≤ x) && decide (x ≤ hi)
theorem isRising_l0 (l : List Int) (hL : l.length ≤ 4000000) : ∀ (d k i : Nat), l.length - i = d → 1 ≤ i → i ≤ l.length → d < k → impl_isRising.l0 k l (i : Int) = some (risingB (l.drop (i - 1))) := by
  intro d
  induction d with
  | zero =>
    intro k i h1 h2 h3 h4
    obtain ⟨k, rfl⟩ : ∃ m, k = m + 1 := ⟨k - 1, by omega⟩
    simp only [impl_isRising.l0]
    rw [if_neg (by omega), List.drop_eq_getElem_cons (by omega), List.drop_of_length_le (by omega)]
    rfl
  | succ d ih =>
    intro k i h1 h2 h3 h4
    obtain ⟨k, rfl⟩ : ∃ m, k = m + 1 := ⟨k - 1, by omega⟩
    have e1 : wrap64 ((i : Int) - 1) = ((i - 1 : Nat) : Int) := by unfold wrap64; omega
    have e2 : wrap64 ((i : Int) + 1) = ((i + 1 : Nat) : Int) := by unfold wrap64; omega
    simp only [impl_isRising.l0]
    rw [if_pos (by omega), if_pos (by omega), e1, if_pos (by omega), if_pos (by omega), rd_nat l i (by omega), rd_nat l (i - 1) (by omega), e2, ih k (i + 1) (by omega) (by omega) (by omega) (by omega),
      List.drop_eq_getElem_cons (show i - 1 < l.length by omega), show i - 1 + 1 = i by omega, show i + 1 - 1 = i by omega, List.drop_eq_getElem_cons (show i < l.length by omega)]
    by_cases hlt : l[i] ≤ l[i - 1]
    · rw [if_pos hlt]
      simp only [risingB]
      rw [decide_eq_false (by omega)]
      rfl
    · rw [if_neg hlt]
      simp only [risingB]
      rw [decide_eq_true (by omega)]
      rfl
theorem isRising_f (l : List Int) (hL : l.length ≤ 4000000) (k : Nat) (hk : l.length + 1 < k) : impl_isRising.f k l = some (risingB l) := by
  unfold impl_isRising.f
  by_cases h0 : l.length = 0
  · have : l = [] := List.length_eq_zero_iff.1 h0
    subst this
    obtain ⟨k, rfl⟩ : ∃ m, k = m + 1 := ⟨k - 1, by omega⟩
    simp only [impl_isRising.l0]
    rw [if_neg (by simp)]
    rfl
  · exact isRising_l0 l hL (l.length - 1) k 1 rfl (by omega) (by omega) (by omega)
theorem fiRises_l0 (l : List Int) (hL : l.length ≤ 4000000) : ∀ (d k i : Nat), l.length - i = d → 1 ≤ i → i ≤ l.length → d < k → spec_fiRises.l0 k l (i : Int) = some (risingB (l.drop (i - 1))) := by
  intro d
  induction d with
  | zero =>
    intro k i h1 h2 h3 h4
    obtain ⟨k, rfl⟩ : ∃ m, k = m + 1 := ⟨k - 1, by omega⟩
    simp only [spec_fiRises.l0]
    rw [if_neg (by omega), List.drop_eq_getElem_cons (by omega), List.drop_of_length_le (by omega)]
    rfl
  | succ d ih =>
    intro k i h1 h2 h3 h4
    obtain ⟨k, rfl⟩ : ∃ m, k = m + 1 := ⟨k - 1, by omega⟩
    have e1 : wrap64 ((i : Int) - 1) = ((i - 1 : Nat) : Int) := by unfold wrap64; omega
    have e2 : wrap64 ((i : Int) + 1) = ((i + 1 : Nat) : Int) := by unfold wrap64; omega
    simp only [spec_fiRises.l0]
    rw [if_pos (by omega), e1, if_pos (by omega), if_pos (by omega), if_pos (by omega), rd_nat l i (by omega), rd_nat l (i - 1) (by omega), e2, ih k (i + 1) (by omega) (by omega) (by omega) (by omega),
      List.drop_eq_getElem_cons (show i - 1 < l.length by omega), show i - 1 + 1 = i by omega, show i + 1 - 1 = i by omega, List.drop_eq_getElem_cons (show i < l.length by omega)]
    by_cases hlt : l[i - 1] ≥ l[i]
    · rw [if_pos hlt]
      simp only [risingB]
      rw [decide_eq_false (by omega)]
      rfl
    · rw [if_neg hlt]
      simp only [risingB]
      rw [decide_eq_true (by omega)]
      rfl
theorem l1All_l0 (l : List Int) (lo hi : Int) (hL : l.length ≤ 4000000) : ∀ (d k i : Nat), l.length - i = d → i ≤ l.length → d < k → spec_l1All.l0 k lo hi l (l.length : Int) (i : Int) = some (inB lo hi (l.drop i)) := by
  intro d
  induction d with
  | zero =>
    intro k i h1 h3 h4
    obtain ⟨k, rfl⟩ : ∃ m, k = m + 1 := ⟨k - 1, by omega⟩
    simp only [spec_l1All.l0]
    rw [if_neg (by omega), List.drop_of_length_le (by omega)]
    rfl
  | succ d ih =>
    intro k i h1 h3 h4
    obtain ⟨k, rfl⟩ : ∃ m, k = m + 1 := ⟨k - 1, by omega⟩
    have e2 : wrap64 ((i : Int) + 1) = ((i + 1 : Nat) : Int) := by unfold wrap64; omega
    have e3 : ∀ x : Int, spec_l1In.f x lo hi = some (decide (lo ≤ x) && decide (x ≤ hi)) := fun x => by
      unfold spec_l1In.f
      by_cases h : lo ≤ x
      · rw [if_pos h, decide_eq_true h]; rfl
      · rw [if_neg (show ¬ x ≥ lo from h), decide_eq_false h]; rfl
    simp only [spec_l1All.l0]
    rw [if_pos (by omega), if_pos (by omega), if_pos (by omega), rd_nat l i (by omega), e3, Option.bind_some, e2, ih k (i + 1) (by omega) (by omega) (by omega), List.drop_eq_getElem_cons (show i < l.length by omega)]
    unfold inB
    rw [List.all_cons]
    cases (decide (lo ≤ l[i]) && decide (l[i] ≤ hi)) <;> rfl
theorem l1All_f (l : List Int) (lo hi : Int) (hL : l.length ≤ 4000000) (k : Nat) (hk : l.length < k) : spec_l1All.f k l lo hi = some (inB lo hi l) := by
  unfold spec_l1All.f
  exact l1All_l0 l lo hi hL l.length k 0 (by omega) (by omega) hk
theorem rising_len (l : List Int) : ∀ (lo hi : Int), risingB l = true → inB lo hi l = true → (l.length : Int) ≤ hi - lo + 1 ∨ l = [] := by
  induction l with
  | nil => intro lo hi _ _; exact .inr rfl
  | cons a t ih =>
    intro lo hi h1 h2
    unfold inB at h2
    rw [List.all_cons, Bool.and_eq_true, Bool.and_eq_true, decide_eq_true_iff, decide_eq_true_iff] at h2
    obtain ⟨⟨h3, h4⟩, h5⟩ := h2
    left
    cases t with
    | nil => simp; omega
    | cons b t =>
      simp only [risingB, Bool.and_eq_true, decide_eq_true_iff] at h1
      have h6 : inB (a + 1) hi (b :: t) = true := by
        have hr : ∀ (t : List Int) (a b : Int), a < b → risingB (b :: t) = true → ∀ x ∈ b :: t, a < x := by
          intro t
          induction t with
          | nil => intro a b hab _ x hx; simp at hx; omega
          | cons c t ih2 =>
            intro a b hab hr x hx
            simp only [risingB, Bool.and_eq_true, decide_eq_true_iff] at hr
            rcases List.mem_cons.1 hx with rfl | hx
            · exact hab
            · have := ih2 b c hr.1 hr.2 x hx; omega
        unfold inB
        rw [List.all_eq_true] at h5 ⊢
        intro x hx
        have h7 := h5 x hx
        have h8 := hr t a b h1.1 h1.2 x hx
        simp only [Bool.and_eq_true, decide_eq_true_iff] at h7 ⊢
        omega
      rcases ih (a + 1) hi h1.2 h6 with h | h
      · simp at h ⊢; omega
      · cases h
def figB (w h : Int) (a u : List Int) : Bool :=
  (decide (1 ≤ w) && decide (w ≤ 4) && decide (1 ≤ h) && decide (h ≤ 4)) && (risingB a && (risingB u && (inB 0 (w * (h + 1) - 1) a && inB 0 (h * (w + 1) - 1) u)))
theorem within_f (n lo hi : Int) : impl_within.f n lo hi = some (decide (lo ≤ n) && decide (n ≤ hi)) := by
  unfold impl_within.f
  by_cases h : lo ≤ n
  · rw [if_pos h, decide_eq_true h]; rfl
  · rw [if_neg h, decide_eq_false h]; rfl
theorem l1In_f (n lo hi : Int) : spec_l1In.f n lo hi = some (decide (lo ≤ n) && decide (n ≤ hi)) := by
  unfold spec_l1In.f
  by_cases h : lo ≤ n
  · rw [if_pos h, decide_eq_true h]; rfl
  · rw [if_neg (show ¬ n ≥ lo from h), decide_eq_false h]; rfl
theorem isGrid_f (w h : Int) : impl_isGrid.f w h = some (decide (1 ≤ w) && decide (w ≤ 4) && decide (1 ≤ h) && decide (h ≤ 4)) := by
  unfold impl_isGrid.f
  rw [within_f, within_f, Option.bind_some, Option.bind_some]
  cases (decide (1 ≤ w) && decide (w ≤ 4)) <;> simp
theorem fiGrid_f (w h : Int) : spec_fiGrid.f w h = some (decide (1 ≤ w) && decide (w ≤ 4) && decide (1 ≤ h) && decide (h ≤ 4)) := by
  unfold spec_fiGrid.f
  rw [l1In_f, l1In_f, Option.bind_some, Option.bind_some]
  cases (decide (1 ≤ w) && decide (w ≤ 4)) <;> simp
theorem grid_bounds {w h : Int} (hg : (decide (1 ≤ w) && decide (w ≤ 4) && decide (1 ≤ h) && decide (h ≤ 4)) = true) : 1 ≤ w ∧ w ≤ 4 ∧ 1 ≤ h ∧ h ≤ 4 := by
  simp only [Bool.and_eq_true, decide_eq_true_iff] at hg; omega
theorem area_bounds {w h : Int} (h1 : 1 ≤ w) (h2 : w ≤ 4) (h3 : 1 ≤ h) (h4 : h ≤ 4) : 2 ≤ w * (h + 1) ∧ w * (h + 1) ≤ 20 ∧ 2 ≤ h * (w + 1) ∧ h * (w + 1) ≤ 20 := by
  have : w = 1 ∨ w = 2 ∨ w = 3 ∨ w = 4 := by omega
  rcases this with rfl | rfl | rfl | rfl <;> omega
theorem IsFigure_f (w h : Int) (a u : List Int) (ha : a.length ≤ 1000000) (hu : u.length ≤ 1000000) (k : Nat) (hk : 1000010 < k) : impl_IsFigure.f k w h a u = some (figB w h a u) := by
  unfold impl_IsFigure.f figB
  rw [isGrid_f, Option.bind_some]
  by_cases hg : (decide (1 ≤ w) && decide (w ≤ 4) && decide (1 ≤ h) && decide (h ≤ 4)) = true
  · rw [if_pos hg, hg, isRising_f a (by omega) k (by omega), isRising_f u (by omega) k (by omega), Option.bind_some]
    obtain ⟨b1, b2, b3, b4⟩ := grid_bounds hg
    obtain ⟨c1, c2, c3, c4⟩ := area_bounds b1 b2 b3 b4
    have e1 : wrap64 (h + 1) = h + 1 := by unfold wrap64; omega
    have e2 : wrap64 (w + 1) = w + 1 := by unfold wrap64; omega
    have e3 : wrap64 (w * (h + 1)) = w * (h + 1) := by unfold wrap64; omega
    have e4 : wrap64 (h * (w + 1)) = h * (w + 1) := by unfold wrap64; omega
    have e5 : wrap64 (w * (h + 1) - 1) = w * (h + 1) - 1 := by unfold wrap64; omega
    have e6 : wrap64 (h * (w + 1) - 1) = h * (w + 1) - 1 := by unfold wrap64; omega
    unfold impl_Figure_grid.f impl_grid_levels.f impl_grid_uprights.f impl_areWithin.f
    simp only [Option.bind_some, e1, e2, e3, e4, e5, e6]
    have key : ∀ A B C D : Bool, (if A = true then (if B = true then (if C = true then some D else some false) else some false) else some false) = some (true && (A && (B && (C && D)))) := by decide
    exact key _ _ _ _
  · rw [if_neg hg, Bool.eq_false_iff.mpr hg]
    rfl
theorem fiRises_f (l : List Int) (m : Int) (hm0 : 0 ≤ m) (hm : m ≤ 100) (hl : l.length ≤ 1000000) (k : Nat) (hk : 1000010 < k) : spec_fiRises.f k l m = some (risingB l && inB 0 m l) := by
  unfold spec_fiRises.f
  have e : wrap64 (m + 1) = m + 1 := by unfold wrap64; omega
  have hj : ∀ b : Bool, spec_fiRises.j0 k l b = some (!b && risingB l) := fun b => by
    obtain ⟨k, rfl⟩ : ∃ q, k = q + 1 := ⟨k - 1, by omega⟩
    simp only [spec_fiRises.j0]
    cases b with
    | true => rfl
    | false =>
      rw [if_neg (by simp)]
      by_cases h0 : l.length = 0
      · have : l = [] := List.length_eq_zero_iff.1 h0
        subst this
        obtain ⟨k, rfl⟩ : ∃ q, k = q + 1 := ⟨k - 1, by omega⟩
        simp only [spec_fiRises.l0]
        rw [if_neg (by simp)]
        rfl
      · rw [show (1 : Int) = ((1 : Nat) : Int) from rfl, fiRises_l0 l (by omega) (l.length - 1) k 1 rfl (by omega) (by omega) (by omega)]
        rfl
  rw [e, hj, l1All_f l 0 m (by omega) k (by omega), Option.bind_some, hj]
  by_cases hgt : (l.length : Int) > m + 1
  · rw [if_pos hgt]
    cases h1 : risingB l with
    | false => rfl
    | true =>
      cases h2 : inB 0 m l with
      | false => rfl
      | true =>
        rcases rising_len l 0 m h1 h2 with h | h
        · omega
        · subst h; simp at hgt; omega
  · rw [if_neg hgt, Bool.not_not, Bool.and_comm]
theorem fiGood_f (w h : Int) (a u : List Int) (ha : a.length ≤ 1000000) (hu : u.length ≤ 1000000) (k : Nat) (hk : 1000010 < k) : spec_fiGood.f k w h a u = some (figB w h a u) := by
  unfold spec_fiGood.f figB
  rw [fiGrid_f, Option.bind_some]
  by_cases hg : (decide (1 ≤ w) && decide (w ≤ 4) && decide (1 ≤ h) && decide (h ≤ 4)) = true
  · rw [if_pos hg, hg]
    obtain ⟨b1, b2, b3, b4⟩ := grid_bounds hg
    obtain ⟨c1, c2, c3, c4⟩ := area_bounds b1 b2 b3 b4
    have e1 : wrap64 (h + 1) = h + 1 := by unfold wrap64; omega
    have e2 : wrap64 (w + 1) = w + 1 := by unfold wrap64; omega
    have e3 : wrap64 (w * (h + 1)) = w * (h + 1) := by unfold wrap64; omega
    have e4 : wrap64 ((w + 1) * h) = h * (w + 1) := by rw [Int.mul_comm]; unfold wrap64; omega
    have e5 : wrap64 (w * (h + 1) - 1) = w * (h + 1) - 1 := by unfold wrap64; omega
    have e6 : wrap64 (h * (w + 1) - 1) = h * (w + 1) - 1 := by unfold wrap64; omega
    rw [e1, e2, e3, e4, e5, e6, fiRises_f a _ (by omega) (by omega) ha k hk, fiRises_f u _ (by omega) (by omega) hu k hk, Option.bind_some, Option.bind_some]
    cases risingB a <;> cases risingB u <;> simp
    cases inB 0 (w * (h + 1) - 1) a <;> simp
  · rw [if_neg hg, Bool.eq_false_iff.mpr hg]
    rfl

end Go.Proofs.Ytjhndaehdbjgkaa.P


namespace Go.Proofs.Ytjhndaehdbjgkaa.P
open Go.RowKit Go.Proofs.YtjhndaehdbjgkaaW.PrintWords Go.Proofs.YtjhndaehdbjgkaaW.PrintLast Go.Proofs.YtjhndaehdbjgkaaW.PrintMore
attribute [local go_sem] max2_int min2_int max_two min_two max_three min_three max_four min_four   -- for this text's walks alone
set_option linter.unusedVariables false
set_option linter.unusedSimpArgs false

theorem u64_small (n : Int) (h0 : 0 ≤ n) (h1 : n < 2 ^ 60) : IntKind.u64.wrap n = n := by
  have : IntKind.u64.wrap n = n % 18446744073709551616 := by simp [IntKind.wrap, IntKind.bits, IntKind.signed]
  rw [this]; omega
theorem i64_small (n : Int) (h0 : 0 ≤ n) (h1 : n < 2 ^ 60) : IntKind.i64.wrap n = n := by rw [IntKind.wrap_i64]; omega
theorem or_u64 (a b : Nat) (ha : a < 2 ^ 60) (hb : b < 2 ^ 60) : Go.bits .or .u64 (a : Int) (b : Int) = ((a ||| b : Nat) : Int) := (bits_nat .u64 60 (by decide) u64_small a b ha hb).2
theorem and_u64 (a b : Nat) (ha : a < 2 ^ 60) (hb : b < 2 ^ 60) : Go.bits .and .u64 (a : Int) (b : Int) = ((a &&& b : Nat) : Int) := (bits_nat .u64 60 (by decide) u64_small a b ha hb).1
theorem or_i64 (a b : Nat) (ha : a < 2 ^ 60) (hb : b < 2 ^ 60) : Go.bits .or .i64 (a : Int) (b : Int) = ((a ||| b : Nat) : Int) := (bits_nat .i64 60 (by decide) i64_small a b ha hb).2
theorem and_i64 (a b : Nat) (ha : a < 2 ^ 60) (hb : b < 2 ^ 60) : Go.bits .and .i64 (a : Int) (b : Int) = ((a &&& b : Nat) : Int) := (bits_nat .i64 60 (by decide) i64_small a b ha hb).1
theorem pow_lt60 {n : Nat} (h : n < 60) : 2 ^ n < 2 ^ 60 := Nat.pow_lt_pow_right (by decide) h
theorem shl_u64 (n : Nat) (h : n < 60) : shl .u64 1 (n : Int) = ((2 ^ n : Nat) : Int) := by
  unfold shl
  rw [Int.toNat_natCast, show min n IntKind.u64.bits = n from Nat.min_eq_left (by show n ≤ 64; omega), Int.one_mul]
  have h2 := pow_lt60 h
  rw [u64_small _ (by exact_mod_cast Nat.zero_le _) (by exact_mod_cast h2)]
  norm_cast
theorem shl_i64 (n : Nat) (h : n < 60) : shl .i64 1 (n : Int) = ((2 ^ n : Nat) : Int) := by
  unfold shl
  rw [Int.toNat_natCast, show min n IntKind.i64.bits = n from Nat.min_eq_left (by show n ≤ 64; omega), Int.one_mul]
  have h2 := pow_lt60 h
  rw [i64_small _ (by exact_mod_cast Nat.zero_le _) (by exact_mod_cast h2)]
  norm_cast
def bitsFrom (s : Nat) (l : List Int) (m : Nat) : Nat := l.foldl (fun m k => m ||| 2 ^ (s + k.toNat)) m
theorem bitsFrom_lt (s : Nat) (l : List Int) : ∀ m, m < 2 ^ 60 → (∀ k ∈ l, s + k.toNat < 60) → bitsFrom s l m < 2 ^ 60 := by
  induction l with
  | nil => intro m hm _; exact hm
  | cons a t ih =>
    intro m hm h
    exact ih _ (Nat.or_lt_two_pow hm (pow_lt60 (h a (by simp)))) (fun k hk => h k (by simp [hk]))
theorem bitsFrom_test (s : Nat) (l : List Int) (i : Nat) : ∀ m, (bitsFrom s l m).testBit i = (m.testBit i || l.any fun k => decide (s + k.toNat = i)) := by
  induction l with
  | nil => intro m; simp [bitsFrom]
  | cons a t ih =>
    intro m
    have := ih (m ||| 2 ^ (s + a.toNat))
    unfold bitsFrom at this ⊢
    rw [List.foldl_cons, this, Nat.testBit_or, Nat.testBit_two_pow, List.any_cons, Bool.or_assoc]
theorem inB_mem {lo hi : Int} {l : List Int} (h : inB lo hi l = true) (x : Int) (hx : x ∈ l) : lo ≤ x ∧ x ≤ hi := by
  unfold inB at h
  rw [List.all_eq_true] at h
  have := h x hx
  simpa using this
def figMask (w h : Int) (a u : List Int) : Nat := bitsFrom (w * (h + 1)).toNat u (bitsFrom 0 a 0)
theorem figMask_lt {w h : Int} {a u : List Int} (hf : figB w h a u = true) : figMask w h a u < 2 ^ 60 := by
  unfold figB at hf
  simp only [Bool.and_eq_true] at hf
  obtain ⟨hg, -, -, hi1, hi2⟩ := hf
  obtain ⟨b1, b2, b3, b4⟩ := grid_bounds (by simp only [Bool.and_eq_true]; exact hg)
  obtain ⟨c1, c2, c3, c4⟩ := area_bounds b1 b2 b3 b4
  refine bitsFrom_lt _ _ _ (bitsFrom_lt _ _ _ (by decide) (fun k hk => ?_)) (fun k hk => ?_)
  · have := inB_mem hi1 k hk; omega
  · have := inB_mem hi2 k hk; omega
theorem figMask_level {w h : Int} {a u : List Int} (hf : figB w h a u = true) (e : Nat) (he : (e : Int) < w * (h + 1)) : (figMask w h a u).testBit e = decide ((e : Int) ∈ a) := by
  unfold figB at hf
  simp only [Bool.and_eq_true] at hf
  obtain ⟨hg, -, -, hi1, hi2⟩ := hf
  unfold figMask
  rw [bitsFrom_test, bitsFrom_test, Nat.zero_testBit, Bool.false_or]
  rw [show (u.any fun k => decide ((w * (h + 1)).toNat + k.toNat = e)) = false from by
    rw [List.any_eq_false]; intro k hk; have := inB_mem hi2 k hk; simp; omega]
  rw [Bool.or_false, Bool.eq_iff_iff, List.any_eq_true, decide_eq_true_iff]
  constructor
  · rintro ⟨k, hk, hke⟩
    have := inB_mem hi1 k hk
    simp at hke
    rw [show (e : Int) = k by omega]
    exact hk
  · intro hm
    exact ⟨_, hm, by simp⟩
theorem figMask_upright {w h : Int} {a u : List Int} (hf : figB w h a u = true) (e : Nat) : (figMask w h a u).testBit ((w * (h + 1)).toNat + e) = decide ((e : Int) ∈ u) := by
  unfold figB at hf
  simp only [Bool.and_eq_true] at hf
  obtain ⟨hg, -, -, hi1, hi2⟩ := hf
  obtain ⟨b1, b2, b3, b4⟩ := grid_bounds (by simp only [Bool.and_eq_true]; exact hg)
  obtain ⟨c1, c2, c3, c4⟩ := area_bounds b1 b2 b3 b4
  unfold figMask
  rw [bitsFrom_test, bitsFrom_test, Nat.zero_testBit, Bool.false_or]
  rw [show (a.any fun k => decide (0 + k.toNat = (w * (h + 1)).toNat + e)) = false from by
    rw [List.any_eq_false]; intro k hk; have := inB_mem hi1 k hk; simp; omega]
  rw [Bool.false_or, Bool.eq_iff_iff, List.any_eq_true, decide_eq_true_iff]
  constructor
  · rintro ⟨k, hk, hke⟩
    have := inB_mem hi2 k hk
    simp at hke
    rw [show (e : Int) = k by omega]
    exact hk
  · intro hm
    exact ⟨_, hm, by simp⟩
theorem set_l1 (w h : Int) (a u : List Int) (hL : u.length ≤ 4000000) (hw : wrap64 (w * wrap64 (h + 1)) = w * (h + 1)) (h0 : 0 ≤ w * (h + 1)) (h1 : w * (h + 1) ≤ 20) (hu : ∀ k ∈ u, 0 ≤ k ∧ k ≤ 20) : ∀ (d k i : Nat) (m : Nat), u.length - i = d → i ≤ u.length → d < k → m < 2 ^ 60 →
    impl_Figure_set.l1 k (m : Int) u (u.length : Int) (i : Int) w h a u = some ((bitsFrom (w * (h + 1)).toNat (u.drop i) m : Nat) : Int) := by
  intro d
  induction d with
  | zero =>
    intro k i m h2 h3 h4 h5
    obtain ⟨k, rfl⟩ : ∃ q, k = q + 1 := ⟨k - 1, by omega⟩
    simp only [impl_Figure_set.l1]
    rw [if_neg (by omega), List.drop_of_length_le (by omega)]
    rfl
  | succ d ih =>
    intro k i m h2 h3 h4 h5
    obtain ⟨k, rfl⟩ : ∃ q, k = q + 1 := ⟨k - 1, by omega⟩
    have hi : i < u.length := by omega
    have hk := hu u[i] (List.getElem_mem hi)
    have e2 : wrap64 ((i : Int) + 1) = ((i + 1 : Nat) : Int) := by unfold wrap64; omega
    have e3 : wrap64 (w * (h + 1) + u[i]) = (((w * (h + 1)).toNat + u[i].toNat : Nat) : Int) := by unfold wrap64; omega
    have hlt : (w * (h + 1)).toNat + u[i].toNat < 60 := by omega
    simp only [impl_Figure_set.l1]
    unfold impl_Figure_grid.f impl_grid_levels.f
    rw [if_pos (by omega), if_pos (by omega), if_pos (by omega), rd_nat u i hi, Option.bind_some, Option.bind_some, hw, e3, if_pos (by omega), shl_u64 _ hlt, or_u64 _ _ h5 (pow_lt60 hlt), e2,
      ih k (i + 1) _ (by omega) (by omega) (by omega) (Nat.or_lt_two_pow h5 (pow_lt60 hlt)), List.drop_eq_getElem_cons hi]
    rfl
theorem set_l0 (w h : Int) (a u : List Int) (hL : a.length ≤ 4000000) (hLu : u.length ≤ 4000000) (hw : wrap64 (w * wrap64 (h + 1)) = w * (h + 1)) (h0 : 0 ≤ w * (h + 1)) (h1 : w * (h + 1) ≤ 20) (ha : ∀ k ∈ a, 0 ≤ k ∧ k ≤ 20) (hu : ∀ k ∈ u, 0 ≤ k ∧ k ≤ 20) : ∀ (d k i : Nat) (m : Nat), a.length - i = d → i ≤ a.length → d + u.length + 2 < k → m < 2 ^ 60 →
    impl_Figure_set.l0 k (m : Int) a (a.length : Int) (i : Int) w h a u = some ((bitsFrom (w * (h + 1)).toNat u (bitsFrom 0 (a.drop i) m) : Nat) : Int) := by
  intro d
  induction d with
  | zero =>
    intro k i m h2 h3 h4 h5
    obtain ⟨k, rfl⟩ : ∃ q, k = q + 1 := ⟨k - 1, by omega⟩
    simp only [impl_Figure_set.l0]
    rw [if_neg (by omega), List.drop_of_length_le (by omega)]
    exact set_l1 w h a u hLu hw h0 h1 hu u.length k 0 m (by omega) (by omega) (by omega) h5
  | succ d ih =>
    intro k i m h2 h3 h4 h5
    obtain ⟨k, rfl⟩ : ∃ q, k = q + 1 := ⟨k - 1, by omega⟩
    have hi : i < a.length := by omega
    have hk := ha a[i] (List.getElem_mem hi)
    have e2 : wrap64 ((i : Int) + 1) = ((i + 1 : Nat) : Int) := by unfold wrap64; omega
    have c1 : (i : Int) < (a.length : Int) := Int.ofNat_lt.2 hi
    have c2 : (0 : Int) ≤ (i : Int) := Int.natCast_nonneg _
    have hr := rd_nat a i hi
    have hd := List.drop_eq_getElem_cons hi
    have n1 : a.length - (i + 1) = d := by clear hk hr hd c1 c2 ih h5 hw h0 h1 hu ha; omega
    have n2 : i + 1 ≤ a.length := hi
    have n3 : d + u.length + 2 < k := by clear hk hr hd c1 c2 ih h5 hw h0 h1 hu ha; omega
    have hih := fun m hm => ih k (i + 1) m n1 n2 n3 hm
    generalize a[i] = x at hk hr hd
    obtain ⟨hk1, hk2⟩ := hk
    obtain ⟨y, rfl⟩ : ∃ y : Nat, x = (y : Int) := ⟨x.toNat, (Int.toNat_of_nonneg hk1).symm⟩
    have hlt : y < 60 := by clear hr hd c1 c2 ih h5 hw h0 h1 hu ha hih; omega
    simp only [impl_Figure_set.l0]
    rw [if_pos c1, if_pos c2, if_pos c1, hr, if_pos hk1, shl_u64 _ hlt, or_u64 _ _ h5 (pow_lt60 hlt), e2, hih _ (Nat.or_lt_two_pow h5 (pow_lt60 hlt)), hd]
    unfold bitsFrom
    rw [List.foldl_cons, Nat.zero_add, Int.toNat_natCast]
theorem set_f {w h : Int} {a u : List Int} (hf : figB w h a u = true) (ha : a.length ≤ 1000000) (hu : u.length ≤ 1000000) (k : Nat) (hk : 2000010 < k) : impl_Figure_set.f k w h a u = some ((figMask w h a u : Nat) : Int) := by
  unfold figB at hf
  simp only [Bool.and_eq_true] at hf
  obtain ⟨hg, -, -, hi1, hi2⟩ := hf
  obtain ⟨b1, b2, b3, b4⟩ := grid_bounds (by simp only [Bool.and_eq_true]; exact hg)
  obtain ⟨c1, c2, c3, c4⟩ := area_bounds b1 b2 b3 b4
  have e1 : wrap64 (h + 1) = h + 1 := by unfold wrap64; omega
  have e3 : wrap64 (w * (h + 1)) = w * (h + 1) := by unfold wrap64; omega
  unfold impl_Figure_set.f figMask
  have q := set_l0 w h a u (by omega) (by omega) (by rw [e1, e3]) (by omega) (by omega) (fun k hk => by have := inB_mem hi1 k hk; omega) (fun k hk => by have := inB_mem hi2 k hk; omega) a.length k 0 0 (by omega) (by omega) (by clear hi1 hi2; omega) (by decide)
  rw [List.drop_zero] at q
  exact q

end Go.Proofs.Ytjhndaehdbjgkaa.P


namespace Go.Proofs.Ytjhndaehdbjgkaa.P
open Go.RowKit Go.Proofs.YtjhndaehdbjgkaaW.PrintWords Go.Proofs.YtjhndaehdbjgkaaW.PrintLast Go.Proofs.YtjhndaehdbjgkaaW.PrintMore
attribute [local go_sem] max2_int min2_int max_two min_two max_three min_three max_four min_four   -- for this text's walks alone
set_option linter.unusedVariables false
set_option linter.unusedSimpArgs false

structure GridOK (w h : Int) : Prop where
  w1 : 1 ≤ w
  w4 : w ≤ 4
  h1 : 1 ≤ h
  h4 : h ≤ 4
theorem prod_b {w y : Int} (h1 : 1 ≤ w) (h4 : w ≤ 5) (hy : 0 ≤ y) (hy4 : y ≤ 4) : 0 ≤ y * w ∧ y * w ≤ 20 := by
  have : y = 0 ∨ y = 1 ∨ y = 2 ∨ y = 3 ∨ y = 4 := by omega
  rcases this with rfl | rfl | rfl | rfl | rfl <;> omega
theorem level_f {w h x y : Int} (g : GridOK w h) (hx : 0 ≤ x) (hx4 : x ≤ 4) (hy : 0 ≤ y) (hy4 : y ≤ 4) : impl_grid_level.f w h x y = some ((2 ^ (y * w + x).toNat : Nat) : Int) := by
  obtain ⟨p1, p2⟩ := prod_b g.w1 (by have := g.w4; omega) hy hy4
  have e1 : wrap64 (y * w) = y * w := by unfold wrap64; omega
  have e2 : wrap64 (y * w + x) = (((y * w + x).toNat : Nat) : Int) := by unfold wrap64; omega
  unfold impl_grid_level.f
  rw [e1, e2, if_pos (Int.natCast_nonneg _), shl_u64 _ (by omega)]
theorem upright_f {w h x y : Int} (g : GridOK w h) (hx : 0 ≤ x) (hx4 : x ≤ 4) (hy : 0 ≤ y) (hy4 : y ≤ 4) : impl_grid_upright.f w h x y = some ((2 ^ ((w * (h + 1)).toNat + (y * (w + 1) + x).toNat) : Nat) : Int) := by
  obtain ⟨p1, p2⟩ := prod_b (w := w + 1) (by have := g.w1; omega) (by have := g.w4; omega) hy hy4
  obtain ⟨c1, c2, -, -⟩ := area_bounds g.w1 g.w4 g.h1 g.h4
  have w1 := g.w1
  have w4 := g.w4
  have h1 := g.h1
  have h4 := g.h4
  have e0 : wrap64 (h + 1) = h + 1 := by unfold wrap64; omega
  have e1 : wrap64 (w + 1) = w + 1 := by unfold wrap64; omega
  have e2 : wrap64 (w * (h + 1)) = w * (h + 1) := by unfold wrap64; omega
  have e3 : wrap64 (y * (w + 1)) = y * (w + 1) := by unfold wrap64; omega
  have e4 : wrap64 (w * (h + 1) + y * (w + 1)) = w * (h + 1) + y * (w + 1) := by unfold wrap64; omega
  have e5 : wrap64 (w * (h + 1) + y * (w + 1) + x) = (((w * (h + 1)).toNat + (y * (w + 1) + x).toNat : Nat) : Int) := by unfold wrap64; omega
  unfold impl_grid_upright.f impl_grid_levels.f
  rw [Option.bind_some, e0, e1, e2, e3, e4, e5, if_pos (Int.natCast_nonneg _), shl_u64 _ (by omega)]
theorem l1Has_l0 (l : List Int) (n : Int) (hL : l.length ≤ 4000000) : ∀ (d k i : Nat), l.length - i = d → i ≤ l.length → d < k → spec_l1Has.l0 k n l (l.length : Int) (i : Int) = some (decide (n ∈ l.drop i)) := by
  intro d
  induction d with
  | zero =>
    intro k i h1 h3 h4
    obtain ⟨k, rfl⟩ : ∃ m, k = m + 1 := ⟨k - 1, by omega⟩
    simp only [spec_l1Has.l0]
    rw [if_neg (by omega), List.drop_of_length_le (by omega)]
    rfl
  | succ d ih =>
    intro k i h1 h3 h4
    obtain ⟨k, rfl⟩ : ∃ m, k = m + 1 := ⟨k - 1, by omega⟩
    have e2 : wrap64 ((i : Int) + 1) = ((i + 1 : Nat) : Int) := by unfold wrap64; omega
    simp only [spec_l1Has.l0]
    rw [if_pos (by omega), if_pos (by omega), if_pos (by omega), rd_nat l i (by omega), e2, ih k (i + 1) (by omega) (by omega) (by omega), List.drop_eq_getElem_cons (show i < l.length by omega)]
    by_cases hn : l[i] = n
    · rw [if_pos hn, decide_eq_true (show n ∈ l[i] :: l.drop (i + 1) by rw [hn]; exact List.mem_cons_self)]
    · rw [if_neg hn]
      congr 1
      rw [decide_eq_decide, List.mem_cons]
      constructor
      · exact Or.inr
      · rintro (h | h)
        · exact absurd h.symm hn
        · exact h
theorem l1Has_f (l : List Int) (n : Int) (hL : l.length ≤ 4000000) (k : Nat) (hk : l.length < k) : spec_l1Has.f k l n = some (decide (n ∈ l)) := by
  unfold spec_l1Has.f
  exact l1Has_l0 l n hL l.length k 0 (by omega) (by omega) hk
theorem fiHas_level {w h : Int} {a u : List Int} (g : GridOK w h) (hf : figB w h a u = true) (ha : a.length ≤ 1000000) (k : Nat) (hk : 1000000 < k) (x y : Int) (hx0 : 0 ≤ x) (hx1 : x < w) (hy0 : 0 ≤ y) (hy1 : y ≤ h) :
    spec_fiHas.f k w h a u false x y = some ((figMask w h a u).testBit (y * w + x).toNat) := by
  have w1 := g.w1
  have w4 := g.w4
  have h1 := g.h1
  have h4 := g.h4
  obtain ⟨p1, p2⟩ := prod_b (w := w) (y := y) w1 (by omega) hy0 (by omega)
  have e0 : wrap64 (w - 1) = w - 1 := by unfold wrap64; omega
  have e1 : wrap64 (y * w) = y * w := by unfold wrap64; omega
  have e2 : wrap64 (y * w + x) = y * w + x := by unfold wrap64; omega
  have hlt : ((y * w + x).toNat : Int) < w * (h + 1) := by
    have c1 : y = 0 ∨ y = 1 ∨ y = 2 ∨ y = 3 ∨ y = 4 := by omega
    have c2 : h = 1 ∨ h = 2 ∨ h = 3 ∨ h = 4 := by omega
    clear e0 e1 e2 hf
    rcases c2 with rfl | rfl | rfl | rfl <;> rcases c1 with rfl | rfl | rfl | rfl | rfl <;> omega
  have ht : ((y * w + x).toNat : Int) = y * w + x := by omega
  unfold spec_fiHas.f spec_fiEdge.f
  rw [if_neg (by decide), l1In_f, Option.bind_some, e0, decide_eq_true hx0, decide_eq_true (show x ≤ w - 1 by omega), if_pos (show (true && true) = true from rfl), l1In_f, Option.bind_some, decide_eq_true hy0, decide_eq_true hy1, Option.bind_some, if_neg (show ¬ false = true by decide), e1, e2, l1Has_f a _ (by omega) k (by omega), Option.bind_some, figMask_level hf _ hlt, ht]
theorem fiHas_upright {w h : Int} {a u : List Int} (g : GridOK w h) (hf : figB w h a u = true) (hu : u.length ≤ 1000000) (k : Nat) (hk : 1000000 < k) (x y : Int) (hx0 : 0 ≤ x) (hx1 : x ≤ w) (hy0 : 0 ≤ y) (hy1 : y < h) :
    spec_fiHas.f k w h a u true x y = some ((figMask w h a u).testBit ((w * (h + 1)).toNat + (y * (w + 1) + x).toNat)) := by
  have w1 := g.w1
  have w4 := g.w4
  have h1 := g.h1
  have h4 := g.h4
  obtain ⟨p1, p2⟩ := prod_b (w := w + 1) (y := y) (by omega) (by omega) hy0 (by omega)
  have e0 : wrap64 (h - 1) = h - 1 := by unfold wrap64; omega
  have e3 : wrap64 (w + 1) = w + 1 := by unfold wrap64; omega
  have e1 : wrap64 (y * (w + 1)) = y * (w + 1) := by unfold wrap64; omega
  have e2 : wrap64 (y * (w + 1) + x) = y * (w + 1) + x := by unfold wrap64; omega
  have ht : ((y * (w + 1) + x).toNat : Int) = y * (w + 1) + x := by omega
  unfold spec_fiHas.f spec_fiEdge.f
  rw [if_pos rfl, l1In_f, Option.bind_some, e0, e3, decide_eq_true hx0, decide_eq_true hx1, if_pos (show (true && true) = true from rfl), l1In_f, Option.bind_some, Option.bind_some, if_pos rfl, e1, e2, l1Has_f u _ (by omega) k (by omega), Option.bind_some, figMask_upright hf, ht]
theorem and_two (e m : Nat) : 2 ^ e &&& m = if m.testBit e = true then 2 ^ e else 0 := by
  apply Nat.eq_of_testBit_eq
  intro i
  rw [Nat.testBit_and, Nat.testBit_two_pow]
  by_cases h : m.testBit e = true
  · rw [if_pos h, Nat.testBit_two_pow]
    by_cases hi : e = i
    · subst hi; simp [h]
    · simp [hi]
  · rw [if_neg h, Nat.zero_testBit]
    by_cases hi : e = i
    · subst hi; simpa using h
    · simp [hi]

end Go.Proofs.Ytjhndaehdbjgkaa.P


namespace Go.Proofs.Ytjhndaehdbjgkaa.P
open Go.RowKit Go.Proofs.YtjhndaehdbjgkaaW.PrintWords Go.Proofs.YtjhndaehdbjgkaaW.PrintLast Go.Proofs.YtjhndaehdbjgkaaW.PrintMore
attribute [local go_sem] max2_int min2_int max_two min_two max_three min_three max_four min_four   -- for this text's walks alone
set_option linter.unusedVariables false
set_option linter.unusedSimpArgs false

def diffN (s g : Nat) : Nat := s ^^^ (s &&& g)
theorem diffN_test (s g i : Nat) : (diffN s g).testBit i = (s.testBit i && !g.testBit i) := by
  unfold diffN; rw [Nat.testBit_xor, Nat.testBit_and]; cases s.testBit i <;> cases g.testBit i <;> rfl
theorem diffN_lt {s : Nat} (g : Nat) {n : Nat} (h : s < 2 ^ n) : diffN s g < 2 ^ n := Nat.xor_lt_two_pow h (Nat.lt_of_le_of_lt Nat.and_le_left h)
theorem andNot_u64 (s g : Nat) (hs : s < 2 ^ 60) (hg : g < 2 ^ 60) : bits .andNot .u64 (s : Int) (g : Int) = ((diffN s g : Nat) : Int) := by
  have h1 : (BitVec.ofInt 64 (s : Int)).toNat = s := by
    rw [BitVec.ofInt_natCast, BitVec.toNat_ofNat]; exact Nat.mod_eq_of_lt (by omega)
  have h2 : (BitVec.ofInt 64 (g : Int)).toNat = g := by
    rw [BitVec.ofInt_natCast, BitVec.toNat_ofNat]; exact Nat.mod_eq_of_lt (by omega)
  have h3 : s &&& (2 ^ 64 - (g + 1)) = diffN s g := by
    apply Nat.eq_of_testBit_eq
    intro i
    rw [Nat.testBit_and, Nat.testBit_two_pow_sub_succ (by omega), diffN_test]
    rcases Nat.lt_or_ge i 64 with h | h
    · simp [h]
    · rw [Nat.testBit_lt_two_pow (Nat.lt_of_lt_of_le hs (Nat.pow_le_pow_right (by omega) (by omega)))]; simp
  have hd := diffN_lt g hs
  show IntKind.u64.wrap ((BitVec.ofInt 64 (s : Int) &&& ~~~ BitVec.ofInt 64 (g : Int)).toNat : Int) = _
  rw [BitVec.toNat_and, BitVec.toNat_not, h1, h2, show 2 ^ 64 - 1 - g = 2 ^ 64 - (g + 1) by omega, h3]
  exact u64_small _ (Int.natCast_nonneg _) (by exact_mod_cast hd)

end Go.Proofs.Ytjhndaehdbjgkaa.P


namespace Go.Proofs.Ytjhndaehdbjgkaa.P
open Go.RowKit Go.Proofs.YtjhndaehdbjgkaaW.PrintWords Go.Proofs.YtjhndaehdbjgkaaW.PrintLast Go.Proofs.YtjhndaehdbjgkaaW.PrintMore
attribute [local go_sem] max2_int min2_int max_two min_two max_three min_three max_four min_four   -- for this text's walks alone
set_option linter.unusedVariables false
set_option linter.unusedSimpArgs false

theorem sqBit_f (w h : Int) (up : Bool) (n : Nat) (hw : wrap64 (w * wrap64 (h + 1)) = w * (h + 1)) (h0 : 0 ≤ w * (h + 1)) (h1 : w * (h + 1) ≤ 20) (hn : n ≤ 20) : spec_sqBit.f w h up (n : Int) = some ((2 ^ ((if up then (w * (h + 1)).toNat else 0) + n) : Nat) : Int) := by
  unfold spec_sqBit.f
  cases up with
  | false =>
    rw [if_neg (by simp), if_pos (by omega), shl_i64 n (by omega)]
    simp
  | true =>
    have e3 : wrap64 (w * (h + 1) + (n : Int)) = (((w * (h + 1)).toNat + n : Nat) : Int) := by unfold wrap64; omega
    rw [if_pos rfl, hw, e3, if_pos (by omega), shl_i64 _ (by omega)]
    rfl
theorem sqMask_l1 (w h : Int) (a u : List Int) (hL : u.length ≤ 4000000) (hw : wrap64 (w * wrap64 (h + 1)) = w * (h + 1)) (h0 : 0 ≤ w * (h + 1)) (h1 : w * (h + 1) ≤ 20) (hu : ∀ k ∈ u, 0 ≤ k ∧ k ≤ 20) : ∀ (d k i : Nat) (m : Nat), u.length - i = d → i ≤ u.length → d < k → m < 2 ^ 60 →
    spec_sqMask.l1 k (m : Int) u (u.length : Int) (i : Int) w h a u = some ((bitsFrom (w * (h + 1)).toNat (u.drop i) m : Nat) : Int) := by
  intro d
  induction d with
  | zero =>
    intro k i m h2 h3 h4 h5
    obtain ⟨k, rfl⟩ : ∃ q, k = q + 1 := ⟨k - 1, by omega⟩
    simp only [spec_sqMask.l1]
    rw [if_neg (by omega), List.drop_of_length_le (by omega)]
    rfl
  | succ d ih =>
    intro k i m h2 h3 h4 h5
    obtain ⟨k, rfl⟩ : ∃ q, k = q + 1 := ⟨k - 1, by omega⟩
    have hi : i < u.length := by omega
    have hk := hu u[i] (List.getElem_mem hi)
    have e2 : wrap64 ((i : Int) + 1) = ((i + 1 : Nat) : Int) := by unfold wrap64; omega
    have hr := rd_nat u i hi
    have hd := List.drop_eq_getElem_cons hi
    have c1 : (i : Int) < (u.length : Int) := Int.ofNat_lt.2 hi
    have c2 : (0 : Int) ≤ (i : Int) := Int.natCast_nonneg _
    have n1 : u.length - (i + 1) = d := by clear hk hr hd c1 c2 ih h5 hw h0 h1 hu; omega
    have n3 : d < k := by clear hk hr hd c1 c2 ih h5 hw h0 h1 hu; omega
    have hih := fun m hm => ih k (i + 1) m n1 hi n3 hm
    generalize u[i] = x at hk hr hd
    obtain ⟨y, rfl⟩ : ∃ y : Nat, x = (y : Int) := ⟨x.toNat, (Int.toNat_of_nonneg hk.1).symm⟩
    have hy20 : y ≤ 20 := by have := hk.2; clear hr hd c1 c2 ih h5 hw h0 h1 hu hih; omega
    have hlt : (w * (h + 1)).toNat + y < 60 := by clear hr hd c1 c2 ih h5 hw hu hih hk; omega
    simp only [spec_sqMask.l1]
    rw [if_pos c1, if_pos c2, if_pos c1, hr, sqBit_f w h true y hw h0 h1 hy20, Option.bind_some, if_pos rfl, or_i64 _ _ h5 (pow_lt60 hlt), e2, hih _ (Nat.or_lt_two_pow h5 (pow_lt60 hlt)), hd]
    unfold bitsFrom
    rw [List.foldl_cons, Int.toNat_natCast]
theorem sqMask_l0 (w h : Int) (a u : List Int) (hL : a.length ≤ 4000000) (hLu : u.length ≤ 4000000) (hw : wrap64 (w * wrap64 (h + 1)) = w * (h + 1)) (h0 : 0 ≤ w * (h + 1)) (h1 : w * (h + 1) ≤ 20) (ha : ∀ k ∈ a, 0 ≤ k ∧ k ≤ 20) (hu : ∀ k ∈ u, 0 ≤ k ∧ k ≤ 20) : ∀ (d k i : Nat) (m : Nat), a.length - i = d → i ≤ a.length → d + u.length + 2 < k → m < 2 ^ 60 →
    spec_sqMask.l0 k (m : Int) a (a.length : Int) (i : Int) w h a u = some ((bitsFrom (w * (h + 1)).toNat u (bitsFrom 0 (a.drop i) m) : Nat) : Int) := by
  intro d
  induction d with
  | zero =>
    intro k i m h2 h3 h4 h5
    obtain ⟨k, rfl⟩ : ∃ q, k = q + 1 := ⟨k - 1, by omega⟩
    simp only [spec_sqMask.l0]
    rw [if_neg (by omega), List.drop_of_length_le (by omega)]
    exact sqMask_l1 w h a u hLu hw h0 h1 hu u.length k 0 m (by omega) (by omega) (by omega) h5
  | succ d ih =>
    intro k i m h2 h3 h4 h5
    obtain ⟨k, rfl⟩ : ∃ q, k = q + 1 := ⟨k - 1, by omega⟩
    have hi : i < a.length := by omega
    have hk := ha a[i] (List.getElem_mem hi)
    have e2 : wrap64 ((i : Int) + 1) = ((i + 1 : Nat) : Int) := by unfold wrap64; omega
    have hr := rd_nat a i hi
    have hd := List.drop_eq_getElem_cons hi
    have c1 : (i : Int) < (a.length : Int) := Int.ofNat_lt.2 hi
    have c2 : (0 : Int) ≤ (i : Int) := Int.natCast_nonneg _
    have n1 : a.length - (i + 1) = d := by clear hk hr hd c1 c2 ih h5 hw h0 h1 hu ha; omega
    have n3 : d + u.length + 2 < k := by clear hk hr hd c1 c2 ih h5 hw h0 h1 hu ha; omega
    have hih := fun m hm => ih k (i + 1) m n1 hi n3 hm
    generalize a[i] = x at hk hr hd
    obtain ⟨y, rfl⟩ : ∃ y : Nat, x = (y : Int) := ⟨x.toNat, (Int.toNat_of_nonneg hk.1).symm⟩
    have hlt : 0 + y < 60 := by have := hk.2; clear hr hd c1 c2 ih h5 hw h0 h1 hu ha hih; omega
    have hy20 : y ≤ 20 := by have := hk.2; clear hr hd c1 c2 ih h5 hw h0 h1 hu ha hih; omega
    simp only [spec_sqMask.l0]
    rw [if_pos c1, if_pos c2, if_pos c1, hr, sqBit_f w h false y hw h0 h1 hy20, Option.bind_some, if_neg (by simp), or_i64 _ _ h5 (pow_lt60 hlt), e2, hih _ (Nat.or_lt_two_pow h5 (pow_lt60 hlt)), hd]
    unfold bitsFrom
    rw [List.foldl_cons, Int.toNat_natCast]
theorem sqMask_f {w h : Int} {a u : List Int} (hf : figB w h a u = true) (ha : a.length ≤ 1000000) (hu : u.length ≤ 1000000) (k : Nat) (hk : 2000010 < k) : spec_sqMask.f k w h a u = some ((figMask w h a u : Nat) : Int) := by
  unfold figB at hf
  simp only [Bool.and_eq_true] at hf
  obtain ⟨hg, -, -, hi1, hi2⟩ := hf
  obtain ⟨b1, b2, b3, b4⟩ := grid_bounds (by simp only [Bool.and_eq_true]; exact hg)
  obtain ⟨c1, c2, c3, c4⟩ := area_bounds b1 b2 b3 b4
  have e1 : wrap64 (h + 1) = h + 1 := by unfold wrap64; omega
  have e3 : wrap64 (w * (h + 1)) = w * (h + 1) := by unfold wrap64; omega
  unfold spec_sqMask.f figMask
  have q := sqMask_l0 w h a u (by omega) (by omega) (by rw [e1, e3]) (by omega) (by omega) (fun k hk => by have := inB_mem hi1 k hk; omega) (fun k hk => by have := inB_mem hi2 k hk; omega) a.length k 0 0 (by omega) (by omega) (by clear hi1 hi2; omega) (by decide)
  rw [List.drop_zero] at q
  exact q
def sqsSame (w h : Nat) : Bool :=
  match impl_grid_squares.f 200 (w : Int) (h : Int), spec_sqAll.f 200 (w : Int) (h : Int) with
  | some L, some PL => (L.map (fun q => q.f3) == PL.map (fun q => q.f3)) && L.all (fun q => decide (0 ≤ q.f3) && decide (q.f3 < 2 ^ 60)) && decide (L.length ≤ 30)
  | _, _ => false
theorem sqs_11 : sqsSame 1 1 = true := by decide +kernel
theorem sqs_12 : sqsSame 1 2 = true := by decide +kernel
theorem sqs_13 : sqsSame 1 3 = true := by decide +kernel
theorem sqs_14 : sqsSame 1 4 = true := by decide +kernel
theorem sqs_21 : sqsSame 2 1 = true := by decide +kernel
theorem sqs_22 : sqsSame 2 2 = true := by decide +kernel
theorem sqs_23 : sqsSame 2 3 = true := by decide +kernel
theorem sqs_24 : sqsSame 2 4 = true := by decide +kernel
theorem sqs_31 : sqsSame 3 1 = true := by decide +kernel
theorem sqs_32 : sqsSame 3 2 = true := by decide +kernel
theorem sqs_33 : sqsSame 3 3 = true := by decide +kernel
theorem sqs_34 : sqsSame 3 4 = true := by decide +kernel
theorem sqs_41 : sqsSame 4 1 = true := by decide +kernel
theorem sqs_42 : sqsSame 4 2 = true := by decide +kernel
theorem sqs_43 : sqsSame 4 3 = true := by decide +kernel
theorem sqs_44 : sqsSame 4 4 = true := by decide +kernel
theorem sqs_all (w h : Nat) (h1 : 1 ≤ w) (h2 : w ≤ 4) (h3 : 1 ≤ h) (h4 : h ≤ 4) : sqsSame w h = true := by
  have hw : w = 1 ∨ w = 2 ∨ w = 3 ∨ w = 4 := by omega
  have hh : h = 1 ∨ h = 2 ∨ h = 3 ∨ h = 4 := by omega
  rcases hw with rfl | rfl | rfl | rfl <;> rcases hh with rfl | rfl | rfl | rfl
  · exact sqs_11
  · exact sqs_12
  · exact sqs_13
  · exact sqs_14
  · exact sqs_21
  · exact sqs_22
  · exact sqs_23
  · exact sqs_24
  · exact sqs_31
  · exact sqs_32
  · exact sqs_33
  · exact sqs_34
  · exact sqs_41
  · exact sqs_42
  · exact sqs_43
  · exact sqs_44
theorem nat_of_list {α : Type} (f : α → Int) : ∀ l : List α, (∀ q ∈ l, 0 ≤ f q ∧ f q < 2 ^ 60) → ∃ E : List Nat, l.map f = E.map (fun n : Nat => (n : Int)) ∧ ∀ e ∈ E, e < 2 ^ 60
  | [], _ => ⟨[], rfl, fun _ h => by cases h⟩
  | x :: l, h => by
    obtain ⟨E, h1, h2⟩ := nat_of_list f l (fun q hq => h q (List.mem_cons_of_mem _ hq))
    obtain ⟨h3, h4⟩ := h x List.mem_cons_self
    refine ⟨(f x).toNat :: E, ?_, fun e he => ?_⟩
    · rw [List.map_cons, List.map_cons, h1, Int.toNat_of_nonneg h3]
    · rcases List.mem_cons.1 he with rfl | he
      · omega
      · exact h2 e he
theorem squares_f {w h : Int} (h1 : 1 ≤ w) (h2 : w ≤ 4) (h3 : 1 ≤ h) (h4 : h ≤ 4) (k : Nat) (hk : 200 ≤ k) : ∃ (L : List S91) (PL : List S87) (E : List Nat), impl_grid_squares.f k w h = some L ∧ spec_sqAll.f k w h = some PL ∧ L.map (fun q => q.f3) = E.map (fun n : Nat => (n : Int)) ∧ PL.map (fun q => q.f3) = E.map (fun n : Nat => (n : Int)) ∧ (∀ e ∈ E, e < 2 ^ 60) ∧ L.length ≤ 30 := by
  obtain ⟨w, rfl⟩ := Int.eq_ofNat_of_zero_le (show 0 ≤ w by omega)
  obtain ⟨h, rfl⟩ := Int.eq_ofNat_of_zero_le (show 0 ≤ h by omega)
  have hs : sqsSame w h = true := sqs_all w h (by omega) (by omega) (by omega) (by omega)
  unfold sqsSame at hs
  cases hL : impl_grid_squares.f 200 (w : Int) (h : Int) with
  | none => rw [hL] at hs; cases hs
  | some L =>
    cases hP : spec_sqAll.f 200 (w : Int) (h : Int) with
    | none => rw [hL, hP] at hs; cases hs
    | some PL =>
      rw [hL, hP] at hs
      simp only [Bool.and_eq_true, beq_iff_eq, decide_eq_true_eq] at hs
      obtain ⟨⟨e1, e2⟩, e3⟩ := hs
      obtain ⟨E, e4, e5⟩ := nat_of_list (fun q : S91 => q.f3) L (fun q hq => by
        have := List.all_eq_true.1 e2 q hq
        simpa using this)
      exact ⟨L, PL, E, up_rounds (fun k => impl_grid_squares.mono _ _ k) hk hL, up_rounds (fun k => spec_sqAll.mono _ _ k) hk hP, e4, by rw [← e1, e4], e5, e3⟩
def subE (e x : Nat) : Bool := diffN e x == 0
theorem subE_test {e x : Nat} : subE e x = true ↔ ∀ i, e.testBit i = true → x.testBit i = true := by
  unfold subE
  rw [beq_iff_eq]
  constructor
  · intro h i hi
    have h2 := diffN_test e x i
    rw [h, hi] at h2
    simpa using h2.symm
  · intro h
    apply Nat.eq_of_testBit_eq
    intro i
    rw [diffN_test, Nat.zero_testBit]
    cases hi : e.testBit i with
    | false => rfl
    | true => rw [h i hi]; rfl
theorem subE_and (e x : Nat) : subE e x = true ↔ x &&& e = e := by
  rw [subE_test]
  constructor
  · intro h
    apply Nat.eq_of_testBit_eq
    intro i
    rw [Nat.testBit_and]
    cases hi : e.testBit i with
    | false => simp
    | true => rw [h i hi]; rfl
  · intro h i hi
    have h2 := congrArg (fun n => n.testBit i) h
    simp only [Nat.testBit_and, hi, Bool.and_true] at h2
    exact h2
theorem map_at {α : Type} {f : α → Int} {L : List α} {E : List Nat} (h : L.map f = E.map (fun n : Nat => (n : Int))) (d : α) (i : Nat) (hi : i < E.length) : i < L.length ∧ f (L.getD i d) = ((E[i] : Nat) : Int) := by
  have hl : L.length = E.length := by have := congrArg List.length h; simpa using this
  refine ⟨by omega, ?_⟩
  have h2 := congrArg (fun l => l[i]?) h
  simp only [List.getElem?_map] at h2
  rw [List.getElem?_eq_getElem (show i < L.length by omega), List.getElem?_eq_getElem hi] at h2
  rw [List.getD_eq_getElem?_getD, List.getElem?_eq_getElem (show i < L.length by omega)]
  simpa using h2
theorem wrap_i1 (i : Nat) (h : i ≤ 1000000) : wrap64 ((i : Int) + 1) = ((i + 1 : Nat) : Int) := by unfold wrap64; omega
theorem wrap_q (m q : Nat) (h : m ≤ 1000000) (hq : q ≤ 1) : wrap64 ((m : Int) + (q : Int)) = ((m + q : Nat) : Int) := by unfold wrap64; omega
theorem filter_map {α : Type} (f : α → Int) (p : Int → Bool) (q : Nat → Bool) : ∀ (L : List α) (E : List Nat), L.map f = E.map (fun n : Nat => (n : Int)) → (∀ e ∈ E, p ((e : Nat) : Int) = q e) → (L.filter fun x => p (f x)).map f = (E.filter q).map (fun n : Nat => (n : Int))
  | [], [], _, _ => rfl
  | [], e :: E, h, _ => by cases h
  | x :: L, [], h, _ => by cases h
  | x :: L, e :: E, h, hp => by
    rw [List.map_cons, List.map_cons] at h
    injection h with h1 h2
    have ih := filter_map f p q L E h2 (fun e he => hp e (List.mem_cons_of_mem _ he))
    have h3 : p (f x) = q e := by rw [h1]; exact hp e List.mem_cons_self
    by_cases hq : q e = true
    · rw [List.filter_cons_of_pos (p := fun x => p (f x)) (h3.trans hq), List.filter_cons_of_pos hq, List.map_cons, List.map_cons, ih, h1]
    · rw [List.filter_cons_of_neg (p := fun x => p (f x)) (by rw [h3]; exact hq), List.filter_cons_of_neg hq, ih]
theorem of_f {L : List S91} {E : List Nat} (h : L.map (fun q => q.f3) = E.map (fun n : Nat => (n : Int))) (hE : ∀ e ∈ E, e < 2 ^ 60) (hl : L.length ≤ 30) (x : Nat) (hx : x < 2 ^ 60) : ∃ L', impl_of.f L (x : Int) = some L' ∧ L'.map (fun q => q.f3) = (E.filter fun e => subE e x).map (fun n : Nat => (n : Int)) ∧ L' = L.filter (ofP (x : Int)) := by
  refine ⟨L.filter (ofP (x : Int)), ?_, ?_, rfl⟩
  · unfold impl_of.f
    rw [if_pos (Nat.le_trans hl (by decide))]
  · have := filter_map (fun q : S91 => q.f3) (fun y => Go.bits .andNot .u64 y (x : Int) == 0) (fun e => subE e x) L E h (fun e he => by
      rw [andNot_u64 _ _ (hE e he) hx]
      unfold subE
      rw [Bool.eq_iff_iff, beq_iff_eq, beq_iff_eq]
      exact ⟨fun h => by exact_mod_cast h, fun h => by rw [h]; rfl⟩)
    exact this

end Go.Proofs.Ytjhndaehdbjgkaa.P


namespace Go.Proofs.Ytjhndaehdbjgkaa.P
open Go.RowKit Go.Proofs.YtjhndaehdbjgkaaW.PrintWords Go.Proofs.YtjhndaehdbjgkaaW.PrintLast Go.Proofs.YtjhndaehdbjgkaaW.PrintMore
attribute [local go_sem] max2_int min2_int max_two min_two max_three min_three max_four min_four   -- for this text's walks alone
set_option linter.unusedVariables false
set_option linter.unusedSimpArgs false

def thrB (E : List Nat) (b : Nat) : Nat := (E.filter fun e => (e &&& b != 0)).length
def thrN (E : List Nat) (x b : Nat) : Nat := thrB (E.filter fun e => subE e x) b
theorem thrB_cons (e : Nat) (E : List Nat) (b : Nat) : thrB (e :: E) b = (if (e &&& b != 0) = true then 1 else 0) + thrB E b := by
  unfold thrB
  by_cases h : (e &&& b != 0) = true
  · rw [List.filter_cons_of_pos (p := fun e => (e &&& b != 0)) h, if_pos h, List.length_cons, Nat.add_comm]
  · rw [List.filter_cons_of_neg (p := fun e => (e &&& b != 0)) h, if_neg h, Nat.zero_add]
theorem thrN_cons (e : Nat) (E : List Nat) (x b : Nat) : thrN (e :: E) x b = (if subE e x = true then (if (e &&& b != 0) = true then 1 else 0) else 0) + thrN E x b := by
  unfold thrN
  by_cases h : subE e x = true
  · rw [List.filter_cons_of_pos (p := fun e => subE e x) h, if_pos h, thrB_cons]
  · rw [List.filter_cons_of_neg (p := fun e => subE e x) h, if_neg h, Nat.zero_add]
theorem sqThrough_l0 (L : List S87) (E : List Nat) (h : L.map (fun q => q.f3) = E.map (fun n : Nat => (n : Int))) (hl : E.length ≤ 30) (x b : Nat) (hb : ∀ e ∈ E, Go.bits .and .i64 (x : Int) ((e : Nat) : Int) = ((x &&& e : Nat) : Int)) (hc : ∀ e ∈ E, Go.bits .and .i64 ((e : Nat) : Int) (b : Int) = ((e &&& b : Nat) : Int)) : ∀ (d k i m : Nat), E.length - i = d → i ≤ E.length → d < k → m ≤ i →
    spec_SquaresThrough.l0 k (b : Int) (x : Int) (m : Int) L (L.length : Int) (i : Int) = some (((m + thrN (E.drop i) x b : Nat) : Int), true) := by
  have hlen : L.length = E.length := by have := congrArg List.length h; simpa using this
  intro d
  induction d with
  | zero =>
    intro k i m h1 h2 h3 h4
    obtain ⟨k, rfl⟩ : ∃ q, k = q + 1 := ⟨k - 1, by omega⟩
    simp only [spec_SquaresThrough.l0]
    rw [if_neg (by omega), List.drop_of_length_le (by omega)]
    rfl
  | succ d ih =>
    intro k i m h1 h2 h3 h4
    obtain ⟨k, rfl⟩ : ∃ q, k = q + 1 := ⟨k - 1, by omega⟩
    have hi : i < E.length := by omega
    obtain ⟨hiL, hat⟩ := map_at h z87 i hi
    have hrd : (rd_T87 L (i : Int)).f3 = ((E[i] : Nat) : Int) := by unfold rd_T87; rw [Int.toNat_natCast]; exact hat
    simp only [spec_SquaresThrough.l0]
    rw [if_pos (by omega), if_pos (by omega), if_pos (by omega), hrd, hb _ (List.getElem_mem hi), hc _ (List.getElem_mem hi), wrap_i1 i (by omega), List.drop_eq_getElem_cons hi, thrN_cons]
    by_cases hs : subE E[i] x = true
    · rw [if_pos (by rw [(subE_and _ _).1 hs]), if_pos hs]
      by_cases hz : E[i] &&& b = 0
      · rw [if_pos (by rw [hz]; rfl), if_neg (by rw [hz]; decide), ih k (i + 1) m (by omega) (by omega) (by omega) (by omega), Nat.zero_add]
      · rw [if_neg (fun h => hz (by exact_mod_cast h)), if_pos (by rw [bne_iff_ne]; exact hz), wrap_i1 m (by omega), ih k (i + 1) (m + 1) (by omega) (by omega) (by omega) (by omega), Nat.add_assoc]
    · rw [if_neg (fun h => hs ((subE_and _ _).2 (by exact_mod_cast h))), if_neg hs, ih k (i + 1) m (by omega) (by omega) (by omega) (by omega), Nat.zero_add]
theorem through_l0 (L : List S91) (E : List Nat) (h : L.map (fun q => q.f3) = E.map (fun n : Nat => (n : Int))) (hl : E.length ≤ 30) (b : Nat) (hb : ∀ e ∈ E, impl_bit.f (Go.bits .and .u64 ((e : Nat) : Int) (b : Int) != 0) = some ((if (e &&& b != 0) = true then 1 else 0 : Nat) : Int)) : ∀ (d k i m : Nat), E.length - i = d → i ≤ E.length → d < k → m ≤ i →
    impl_through.l0 k (b : Int) (m : Int) L (L.length : Int) (i : Int) = some ((m + thrB (E.drop i) b : Nat) : Int) := by
  have hlen : L.length = E.length := by have := congrArg List.length h; simpa using this
  intro d
  induction d with
  | zero =>
    intro k i m h1 h2 h3 h4
    obtain ⟨k, rfl⟩ : ∃ q, k = q + 1 := ⟨k - 1, by omega⟩
    simp only [impl_through.l0]
    rw [if_neg (by omega), List.drop_of_length_le (by omega)]
    rfl
  | succ d ih =>
    intro k i m h1 h2 h3 h4
    obtain ⟨k, rfl⟩ : ∃ q, k = q + 1 := ⟨k - 1, by omega⟩
    have hi : i < E.length := by omega
    obtain ⟨hiL, hat⟩ := map_at h z91 i hi
    have hrd : (rd_T91 L (i : Int)).f3 = ((E[i] : Nat) : Int) := by unfold rd_T91; rw [Int.toNat_natCast]; exact hat
    simp only [impl_through.l0]
    rw [if_pos (by omega), if_pos (by omega), if_pos (by omega), hrd, hb _ (List.getElem_mem hi), Option.bind_some, wrap_i1 i (by omega), List.drop_eq_getElem_cons hi, thrB_cons]
    have hq1 : (if (E[i] &&& b != 0) = true then 1 else 0 : Nat) ≤ 1 := by split <;> omega
    generalize (if (E[i] &&& b != 0) = true then 1 else 0 : Nat) = q at hq1
    have hih := ih k (i + 1) (m + q) (by omega) (by omega) (by omega) (by omega)
    rw [wrap_q m q (by omega) hq1, hih, Nat.add_assoc]
theorem bit_thr {e b : Nat} (he : e < 2 ^ 60) (hb : b < 2 ^ 60) : impl_bit.f (Go.bits .and .u64 ((e : Nat) : Int) (b : Int) != 0) = some ((if (e &&& b != 0) = true then 1 else 0 : Nat) : Int) := by
  rw [and_u64 _ _ he hb]
  unfold impl_bit.f
  by_cases h0 : e &&& b = 0
  · rw [h0]; rfl
  · rw [show (((e &&& b : Nat) : Int) != 0) = true by rw [bne_iff_ne]; exact fun h => h0 (by exact_mod_cast h), show (e &&& b != 0) = true by rw [bne_iff_ne]; exact h0]
    rfl
def edB (w h : Int) (up : Bool) (x y : Int) : Bool := if up then (decide (0 ≤ x) && decide (x ≤ w)) && (decide (0 ≤ y) && decide (y ≤ h - 1)) else (decide (0 ≤ x) && decide (x ≤ w - 1)) && (decide (0 ≤ y) && decide (y ≤ h))
def edN (w : Int) (up : Bool) (x y : Int) : Nat := if up then (y * (w + 1) + x).toNat else (y * w + x).toNat
def edP (w h : Int) (up : Bool) (x y : Int) : Nat := (if up then (w * (h + 1)).toNat else 0) + edN w up x y
theorem edB_up {w h x y : Int} (hb : edB w h true x y = true) : (0 ≤ x ∧ x ≤ w) ∧ 0 ≤ y ∧ y < h := by
  unfold edB at hb
  simp only [if_true, Bool.and_eq_true, decide_eq_true_eq] at hb
  omega
theorem edB_level {w h x y : Int} (hb : edB w h false x y = true) : (0 ≤ x ∧ x < w) ∧ 0 ≤ y ∧ y ≤ h := by
  unfold edB at hb
  simp only [Bool.false_eq_true, if_false, Bool.and_eq_true, decide_eq_true_eq] at hb
  omega
theorem fiEdge_f {w h : Int} (g : GridOK w h) (a u : List Int) (up : Bool) (x y : Int) : ∃ n : Int, spec_fiEdge.f w h a u up x y = some (n, edB w h up x y) ∧ (edB w h up x y = true → n = ((edN w up x y : Nat) : Int) ∧ edN w up x y ≤ 20 ∧ edP w h up x y < 60) := by
  have w1 := g.w1
  have w4 := g.w4
  have h1 := g.h1
  have h4 := g.h4
  obtain ⟨c1, c2, -, -⟩ := area_bounds w1 w4 h1 h4
  cases up with
  | false =>
    have e0 : wrap64 (w - 1) = w - 1 := by unfold wrap64; omega
    refine ⟨wrap64 (wrap64 (y * w) + x), ?_, fun hb => ?_⟩
    · unfold spec_fiEdge.f edB
      rw [if_neg (by simp), l1In_f, Option.bind_some, e0, l1In_f, Option.bind_some]
      cases (decide (0 ≤ x) && decide (x ≤ w - 1)) <;> rfl
    · obtain ⟨⟨x0, x1⟩, y0, y1⟩ := edB_level hb
      obtain ⟨p1, p2⟩ := prod_b (w := w) (y := y) w1 (by omega) y0 (by omega)
      have e1 : wrap64 (y * w) = y * w := by unfold wrap64; omega
      have e2 : wrap64 (y * w + x) = y * w + x := by unfold wrap64; omega
      have hN : edN w false x y = (y * w + x).toNat := rfl
      have hP : edP w h false x y = 0 + (y * w + x).toNat := rfl
      have hc3 : y * w + x ≤ 20 := by
        have k1 : y = 0 ∨ y = 1 ∨ y = 2 ∨ y = 3 ∨ y = 4 := by omega
        clear c1 c2 hN hP e1 e2 e0 hb p1 p2
        rcases k1 with rfl | rfl | rfl | rfl | rfl <;> omega
      rw [hN, hP, e1, e2]
      omega
  | true =>
    have e0 : wrap64 (h - 1) = h - 1 := by unfold wrap64; omega
    have e3 : wrap64 (w + 1) = w + 1 := by unfold wrap64; omega
    refine ⟨wrap64 (wrap64 (y * wrap64 (w + 1)) + x), ?_, fun hb => ?_⟩
    · unfold spec_fiEdge.f edB
      rw [if_pos rfl, l1In_f, Option.bind_some, e0, l1In_f, Option.bind_some]
      cases (decide (0 ≤ x) && decide (x ≤ w)) <;> rfl
    · obtain ⟨⟨x0, x1⟩, y0, y1⟩ := edB_up hb
      obtain ⟨p1, p2⟩ := prod_b (w := w + 1) (y := y) (by omega) (by omega) y0 (by omega)
      have e1 : wrap64 (y * (w + 1)) = y * (w + 1) := by unfold wrap64; omega
      have e2 : wrap64 (y * (w + 1) + x) = y * (w + 1) + x := by unfold wrap64; omega
      have hN : edN w true x y = (y * (w + 1) + x).toNat := rfl
      have hP : edP w h true x y = (w * (h + 1)).toNat + (y * (w + 1) + x).toNat := rfl
      have hc3 : y * (w + 1) + x ≤ 20 := by
        have k1 : y = 0 ∨ y = 1 ∨ y = 2 ∨ y = 3 := by omega
        clear c1 c2 hN hP e1 e2 e3 e0 hb p1 p2
        rcases k1 with rfl | rfl | rfl | rfl <;> omega
      rw [hN, hP, e3, e1, e2]
      omega
theorem edge_f {w h : Int} {a u : List Int} (g : GridOK w h) (hf : figB w h a u = true) (ha : a.length ≤ 1000000) (hu : u.length ≤ 1000000) (k : Nat) (hk : 1000010 < k) (up : Bool) (x y : Int) : impl_edge.f k w h a u up x y = some (if edB w h up x y = true then (((2 ^ edP w h up x y : Nat) : Int), true) else (0, false)) := by
  have w1 := g.w1
  have w4 := g.w4
  have h1 := g.h1
  have h4 := g.h4
  unfold impl_edge.f impl_Figure_grid.f
  rw [IsFigure_f w h a u ha hu k hk, hf, Option.bind_some, if_pos rfl, Option.bind_some]
  dsimp only
  cases up with
  | false =>
    have e0 : wrap64 (w - 1) = w - 1 := by unfold wrap64; omega
    rw [if_neg (by simp), within_f, Option.bind_some, e0, within_f, Option.bind_some]
    by_cases hb : edB w h false x y = true
    · obtain ⟨⟨x0, x1⟩, y0, y1⟩ := edB_level hb
      rw [if_pos hb, decide_eq_true x0, decide_eq_true (show x ≤ w - 1 by omega), if_pos (by rfl), decide_eq_true y0, decide_eq_true y1, if_pos (by rfl), level_f g x0 (by omega) y0 (by omega), Option.bind_some]
      unfold edP edN
      rw [if_neg (by simp), if_neg (by simp), Nat.zero_add]
    · rw [if_neg hb]
      unfold edB at hb
      rw [if_neg (by simp)] at hb
      cases h5 : (decide (0 ≤ x) && decide (x ≤ w - 1)) with
      | false => rw [if_neg (by simp)]
      | true =>
        rw [h5, Bool.true_and] at hb
        rw [if_pos rfl, if_neg hb]
  | true =>
    have e0 : wrap64 (h - 1) = h - 1 := by unfold wrap64; omega
    rw [if_pos rfl, within_f, Option.bind_some, e0, within_f, Option.bind_some]
    by_cases hb : edB w h true x y = true
    · obtain ⟨⟨x0, x1⟩, y0, y1⟩ := edB_up hb
      rw [if_pos hb, decide_eq_true x0, decide_eq_true x1, if_pos (by rfl), decide_eq_true y0, decide_eq_true (show y ≤ h - 1 by omega), if_pos (by rfl), upright_f g x0 (by omega) y0 (by omega), Option.bind_some]
      unfold edP edN
      rw [if_pos rfl, if_pos rfl]
    · rw [if_neg hb]
      unfold edB at hb
      rw [if_pos rfl] at hb
      cases h5 : (decide (0 ≤ x) && decide (x ≤ w)) with
      | false => rw [if_neg (by simp)]
      | true =>
        rw [h5, Bool.true_and] at hb
        rw [if_pos rfl, if_neg hb]
theorem fiHas_f {w h : Int} {a u : List Int} (g : GridOK w h) (hf : figB w h a u = true) (ha : a.length ≤ 1000000) (hu : u.length ≤ 1000000) (k : Nat) (hk : 1000000 < k) (up : Bool) (x y : Int) (hb : edB w h up x y = true) : spec_fiHas.f k w h a u up x y = some ((figMask w h a u).testBit (edP w h up x y)) := by
  cases up with
  | false =>
    obtain ⟨⟨x0, x1⟩, y0, y1⟩ := edB_level hb
    rw [fiHas_level g hf ha k hk x y x0 x1 y0 y1]
    unfold edP edN
    rw [if_neg (by simp), if_neg (by simp), Nat.zero_add]
  | true =>
    obtain ⟨⟨x0, x1⟩, y0, y1⟩ := edB_up hb
    rw [fiHas_upright g hf hu k hk x y x0 x1 y0 y1]
    unfold edP edN
    rw [if_pos rfl, if_pos rfl]
theorem SquaresThrough_pure {w h : Int} {a u : List Int} (ha : a.length ≤ 1000000) (hu : u.length ≤ 1000000) (up : Bool) (x y : Int) : ∃ r1 r2, spec_SquaresThrough.f 4000001 w h a u up x y = some (r1, r2) ∧ impl_SquaresThrough.f 4000001 w h a u up x y = some (r1, r2) := by
  have e4 : (4000001 : Nat) = 4000000 + 1 := rfl
  cases hf : figB w h a u with
  | false =>
    refine ⟨0, false, ?_, ?_⟩
    · unfold spec_SquaresThrough.f spec_fiAsked.f
      rw [fiGood_f w h a u ha hu _ (by decide), hf, Option.bind_some, if_neg (by simp), Option.bind_some, if_neg (by simp), e4]
      simp only [spec_SquaresThrough.j0, if_true]
    · unfold impl_SquaresThrough.f impl_edge.f
      rw [IsFigure_f w h a u ha hu _ (by decide), hf, Option.bind_some, if_neg (by simp), Option.bind_some, if_neg (by simp), e4]
      simp only [impl_SquaresThrough.j0, if_true]
  | true =>
    have hg := hf
    unfold figB at hg
    simp only [Bool.and_eq_true] at hg
    obtain ⟨hgg, -⟩ := hg
    obtain ⟨b1, b2, b3, b4⟩ := grid_bounds (by simp only [Bool.and_eq_true]; exact hgg)
    have g : GridOK w h := ⟨b1, b2, b3, b4⟩
    obtain ⟨n, n1, n2⟩ := fiEdge_f g a u up x y
    have hed := edge_f g hf ha hu 4000001 (by decide) up x y
    cases hb : edB w h up x y with
    | false =>
      rw [hb] at n1 hed
      rw [if_neg (by simp)] at hed
      refine ⟨0, false, ?_, ?_⟩
      · unfold spec_SquaresThrough.f spec_fiAsked.f
        rw [fiGood_f w h a u ha hu _ (by decide), hf, Option.bind_some, if_pos rfl, n1, Option.bind_some, Option.bind_some, if_neg (by simp), e4]
        simp only [spec_SquaresThrough.j0, if_true]
      · unfold impl_SquaresThrough.f
        rw [hed, Option.bind_some, if_neg (by simp), e4]
        simp only [impl_SquaresThrough.j0, if_true]
    | true =>
      obtain ⟨n3, n4, n5⟩ := n2 hb
      rw [hb] at n1 hed
      rw [if_pos rfl] at hed
      have hM := figMask_lt hf
      have hB := pow_lt60 n5
      have hand := and_two (edP w h up x y) (figMask w h a u)
      rw [Nat.and_comm] at hand
      have hhas := fiHas_f g hf ha hu 4000001 (by decide) up x y hb
      cases ht : (figMask w h a u).testBit (edP w h up x y) with
      | false =>
        rw [ht] at hhas hand
        refine ⟨0, false, ?_, ?_⟩
        · unfold spec_SquaresThrough.f spec_fiAsked.f
          rw [fiGood_f w h a u ha hu _ (by decide), hf, Option.bind_some, if_pos rfl, n1, Option.bind_some, Option.bind_some, if_pos rfl, hhas, Option.bind_some, e4]
          simp only [spec_SquaresThrough.j0, Bool.not_false, if_true]
        · unfold impl_SquaresThrough.f
          rw [hed, Option.bind_some, if_pos rfl, set_f hf ha hu _ (by decide), Option.bind_some, and_u64 _ _ hM hB, hand, e4]
          simp only [impl_SquaresThrough.j0, Bool.false_eq_true, if_false]
          rfl
      | true =>
        rw [ht] at hhas hand
        have hne : ((figMask w h a u &&& 2 ^ edP w h up x y : Nat) : Int) ≠ 0 := by
          rw [hand]
          have := Nat.two_pow_pos (edP w h up x y)
          rw [if_pos rfl]
          omega
        obtain ⟨L, PL, E, hL, hPL, hLE, hPE, hE, hl⟩ := squares_f b1 b2 b3 b4 4000000 (by decide)
        have hlE : E.length ≤ 30 := by have := congrArg List.length hLE; simp only [List.length_map] at this; omega
        obtain ⟨L', q1, q2, -⟩ := of_f hLE hE hl _ hM
        have hlF : (E.filter fun e => subE e (figMask w h a u)).length ≤ 30 := Nat.le_trans (List.length_filter_le _ _) hlE
        refine ⟨((thrN E (figMask w h a u) (2 ^ edP w h up x y) : Nat) : Int), true, ?_, ?_⟩
        · unfold spec_SquaresThrough.f spec_fiAsked.f
          rw [fiGood_f w h a u ha hu _ (by decide), hf, Option.bind_some, if_pos rfl, n1, Option.bind_some, Option.bind_some, if_pos rfl, hhas, Option.bind_some, e4]
          simp only [spec_SquaresThrough.j0]
          have hsb := sqBit_f w h up (edN w up x y) (by
            obtain ⟨c1, c2, -, -⟩ := area_bounds b1 b2 b3 b4
            have e1 : wrap64 (h + 1) = h + 1 := by unfold wrap64; omega
            rw [e1]; unfold wrap64; omega) (by have := area_bounds b1 b2 b3 b4; omega) (by have := area_bounds b1 b2 b3 b4; omega) n4
          rw [if_neg (by simp), n1, Option.bind_some, n3, hsb, Option.bind_some, sqMask_f hf ha hu _ (by decide), Option.bind_some, hPL, Option.bind_some]
          have q := sqThrough_l0 PL E hPE hlE (figMask w h a u) (2 ^ edP w h up x y) (fun e he => and_i64 _ _ hM (hE e he)) (fun e he => and_i64 _ _ (hE e he) hB) E.length 4000000 0 0 (Nat.sub_zero _) (Nat.zero_le _) (Nat.lt_of_le_of_lt hlE (by decide)) (Nat.le_refl _)
          rw [List.drop_zero, Nat.zero_add] at q
          exact q
        · unfold impl_SquaresThrough.f
          rw [hed, Option.bind_some, if_pos rfl, set_f hf ha hu _ (by decide), Option.bind_some, and_u64 _ _ hM hB, beq_eq_false_iff_ne.2 hne, e4]
          simp only [impl_SquaresThrough.j0, impl_Figure_squares.f, impl_Figure_grid.f]
          rw [if_neg (by simp), Option.bind_some]
          dsimp only
          rw [hL, Option.bind_some, set_f hf ha hu _ (by decide), Option.bind_some, q1, Option.bind_some, Option.bind_some]
          have q := through_l0 L' _ q2 hlF (2 ^ edP w h up x y) (fun e he => bit_thr (hE e (List.mem_filter.1 he).1) hB) _ 4000000 0 0 (Nat.sub_zero _) (Nat.zero_le _) (Nat.lt_of_le_of_lt hlF (by decide)) (Nat.le_refl _)
          rw [List.drop_zero, Nat.zero_add] at q
          unfold impl_through.f
          rw [show ((0 : Nat) : Int) = 0 from rfl] at q
          rw [q]
          rfl

end Go.Proofs.Ytjhndaehdbjgkaa.P


namespace Go.Proofs.Ytjhndaehdbjgkaa.fnExactSquaresThrough
open Go.ChangeShapes Go.WideShapes Go.ChangeAt Go.RowKit Go.Proofs.YtjhndaehdbjgkaaW.PrintWords Go.Joins
set_option linter.unusedVariables false
theorem own : ownKnob Try.prog.godebug = none := Closed.own
theorem laidOut : laidOutB Try.prog = true := Closed.laidOut
def IsRow (k : IntKind) (w : World) (a : Option Addr) (len cap : Nat) (zs : List Int) : Prop :=
  (a = none ∧ len = 0 ∧ cap = 0 ∧ zs = []) ∨
  ∃ x, a = some x ∧ len ≤ cap ∧ cap ≤ maxLen ∧ zs.length = cap ∧ (∀ i, i < zs.length → w.cell? (x.add i) = some (.int k (zs.getD i 0))) ∧ ∀ n ∈ zs, (Lit.int k n).wf = true
theorem opened {H : Type} {enc : TypeId × Value → H} {W : World} {m : Nat} {c : Value} {y : DataW H × List MemPlace} (hy : DataW.trod enc Try.prog W 0 (fun _ => true) true m 22 [c] = some y) :
    ∃ a len cap zs, c = .slice a len cap ∧ IsRow .i64 W a len cap zs := by
  rcases open_ints Try.underlying22 Try.underlying3 (by kernel_rfl) hy with ⟨hcs, _⟩ | ⟨x, l, c, zs, hcs, _, hl, hm, hz, _, hcell, hwz⟩
  · simp at hcs
    exact ⟨none, 0, 0, [], hcs, .inl ⟨rfl, rfl, rfl, rfl⟩⟩
  · simp at hcs
    exact ⟨some x, l, c, zs, hcs, .inr ⟨_, rfl, hl, hm, by simpa using hz, hcell, hwz⟩⟩
theorem walk (a b : Int) (A2 : Option Addr) (n2 c2 : Nat) (z2 : List Int) (A3 : Option Addr) (n3 c3 : Nat) (z3 : List Int) (x1 : Bool) (x2 : Int) (x3 : Int) (w : World) (w2 : IsRow .i64 w A2 n2 c2 z2) (w3 : IsRow .i64 w A3 n3 c3 z3) (y2 : n2 * 8 ≤ 140737488351232) (y3 : n3 * 8 ≤ 140737488351232) :
    Calls Try.prog 7 #[.agg #[.int .i64 a, .int .i64 b, .slice A2 n2 c2, .slice A3 n3 c3], .bool x1, .int .i64 x2, .int .i64 x3] w fun e w' => e = .returned (.bool true) ∧ Below w.heap.size w w' := by
  obtain ⟨l2, rfl, hr2, hm2, hw2, hc2⟩ := ReadsInt.ofRowC w2
  obtain ⟨l3, rfl, hr3, hm3, hw3, hc3⟩ := ReadsInt.ofRowC w3
  have k2 := Kd.C_of_reads (d := (0 : Int)) (h1 := fun _ => rfl) hr2
  have k3 := Kd.C_of_reads (d := (0 : Int)) (h1 := fun _ => rfl) hr3
  by_cases hbig : l2.length + l3.length ≤ 1000000
  · have b2 : l2.length ≤ 1000000 := Nat.le_trans (Nat.le_add_right _ _) hbig
    have b3 : l3.length ≤ 1000000 := Nat.le_trans (Nat.le_add_left _ _) hbig
    obtain ⟨r1, r2, hp1, hp2⟩ := P.SquaresThrough_pure (w := a) (h := b) (a := l2) (u := l3) b2 b3 x1 x2 x3
    exact P.law_SquaresThrough_yes a b A2 c2 l2 A3 c3 l3 x1 x2 x3 4000001 r1 r2 (fun _ => True) (fun _ _ _ _ => trivial) w k2 hc2 k3 hc3 trivial hbig (Nat.lt_succ_self _)
      (fun B2 d2 B3 d3 W hu2 hd2 hu3 hd3 _ => P.spec_SquaresThrough.calls 4000001 a b B2 d2 l2 B3 d3 l3 x1 x2 x3 r1 r2 W hu2 hd2 hu3 hd3 hp1)
      (fun B2 d2 B3 d3 W hu2 hd2 hu3 hd3 _ => P.impl_SquaresThrough.calls 4000001 a b B2 d2 l2 B3 d3 l3 x1 x2 x3 r1 r2 W hu2 hd2 hu3 hd3 hp2)
  · exact P.law_SquaresThrough_no a b A2 c2 l2 A3 c3 l3 x1 x2 x3 w k2 hc2 k3 hc3 (by clear hbig; omega) (by clear hbig; omega) hbig
theorem joined_mk (P : Program) (f : FuncId) (fn : Func) (s : ChangeSpec) (c : OpenClaim) (k0 : (c.wf (OpenSpec.ofChange s)) = true) (k1 : (laidOutB P) = true) (k2 : (mapsRowed P) = true) (k3 : (fn.params.all (P.readableRec ·)) = true) (k4 : (namedTie P c.named s.vars) = true) (k5 : ((c.stops == [])) = true) (k6 : ((P.stops == [])) = true) (k7 : ((c.knobs == [])) = true) (k8 : ((P.stopKnobs == [])) = true) (k9 : ((c.inPlace == P.inPlace f)) = true) (k10 : ((c.unfollowed == P.unfollowed f)) = true) (k11 : ((c.recurses == P.recurses f)) = true) (k12 : ((c.named == P.varsNamed f)) = true) (k13 : ((c.maps == (fn.params.toList ++ s.plain.varTypes P).any (P.mapsRec ·))) = true) (k14 : ((c.ifaces == (fn.params.toList ++ s.plain.varTypes P).any (P.ifacesRec ·))) = true) (k15 : ((c.mapsOut == P.mapsAmong fn.resultTypes.toList)) = true) (k16 : ((c.loops == (fn.params.toList ++ s.plain.varTypes P).any (P.loopsFrom ·))) = true) (k17 : ((c.wideKeys == (fn.params.toList ++ s.plain.varTypes P ++ fn.resultTypes.toList).any (P.wideKeysFrom ·))) = true) (k18 : (s.vars.all (P.varReadable ·)) = true) (k19 : (fn.resultTypes.all (fun t => P.readableRec t && decide (t < P.types.size))) = true) (k20 : ((c.ifacesOut == fn.resultTypes.toList.any (P.ifacesRec ·))) = true) (k21 : ((c.loopsOut == fn.resultTypes.toList.any (P.loopsFrom ·))) = true) (k22 : ((c.plainKeys == P.plainKeys)) = true) (k23 : (c.shortTexts.isNone) = true) (k24 : (P.stopsHeard) = true) (k25 : (P.mayEnter) = true) (k26 : ((c.lifted == P.liftsFinal)) = true) (k27 : ((P.make == some c.make)) = true) (hd : c.domain.isEmpty = true) (k28 : (c.kinds == []) = true) (k29 : ((c.pinned == c.pinnedBy)) = true) (k30 : ((c.veiled == (fn.params.toList ++ s.plain.varTypes P ++ fn.resultTypes.toList).any (P.veiledRec ·))) = true) (k31 : (c.veiledFits P fn.params.toList (fn.params.toList ++ s.plain.varTypes P ++ fn.resultTypes.toList)) = true) : joinedFacts P f fn s c = true := by
  unfold joinedFacts
  simp only [hd, if_true, k0, k1, k2, k3, k4, k5, k6, k7, k8, k9, k10, k11, k12, k13, k14, k15, k16, k17, k18, k19, k20, k21, k22, k23, k24, k25, k26, k27, k28, k29, k30, k31, Bool.and_self]
set_option maxRecDepth 100000 in
theorem lifted (os : Os) (started : os.Started) (H : Type) (enc : TypeId × Value → H) :
    ReturnsInHanded {} Try.checked os 7 .any (Rows.fnExactSquaresThroughSpec.pre6 enc Try.prog Try.f7 Rows.fnExactSquaresThroughRow.domain false) (Rows.fnExactSquaresThroughSpec.post enc Try.prog Try.f7 false true false false) := by
  refine returnsInHanded_of_change_sized (C := Try.checked) own started (by kernel_rfl) Try.func7
    (ChangeSpec.witness6 (enc := enc) (C := Try.checked) false ⟨#[], #[.agg #[.int .i64 0, .int .i64 0, .slice none 0 0, .slice none 0 0], .bool false, .int .i64 0, .int .i64 0], []⟩ 8 (by kernel_rfl) (by kernel_rfl) (by kernel_rfl) (by kernel_rfl)) ?_
  intro W base args ds gs before hval0 hW hcnd hsz0 _
  have hsz : (DataW.weightsEach Try.prog (Try.f7.params.toList ++ Rows.fnExactSquaresThroughSpec.plain.varTypes Try.prog) (ds ++ gs)).all (· ≤ reachBytes) = true := hsz0
  have hval : ∀ (j : Nat) t v, Try.f7.params[j]? = some t → args[j]? = some v → Value.okWide Try.prog W .any base t v := hval0
  have hW' := hW
  obtain ⟨p, q, hA0, hV, rfl, hfz, hnd⟩ := hW
  have hA : DataW.TrodAll enc Try.prog W 0 (fun _ => true) true Try.f7.params.toList args.toList ds p := hA0
  rw [Try.params7] at hA hval hsz
  obtain ⟨v0, vs0, d0, ds0, p0, q0, hargs, rfl, rfl, h0, r0⟩ := trodAll_cons hA
  obtain ⟨v1, vs1, d1, ds1, p1, q1, rfl, rfl, rfl, h1, r1⟩ := trodAll_cons r0
  obtain ⟨v2, vs2, d2, ds2, p2, q2, rfl, rfl, rfl, h2, r2⟩ := trodAll_cons r1
  obtain ⟨v3, vs3, d3, ds3, p3, q3, rfl, rfl, rfl, h3, r3⟩ := trodAll_cons r2
  obtain ⟨rfl, rfl, rfl⟩ := trodAll_nil r3
  obtain rfl : args = #[v0, v1, v2, v3] := by cases args; simp_all
  obtain ⟨rfl, rfl⟩ := trodVars_none hV
  have k0 := h0
  have lt0 : ∀ x ∈ p0, x.block < W.heap.size := by obtain ⟨m, hm⟩ := k0; exact DataW.trod_lt m _ _ _ hm
  obtain ⟨x1, rfl, rfl, rfl⟩ := open_bool Try.underlying4 (hval 1 4 v1 rfl rfl) h1
  obtain ⟨x2, rfl, rfl, rfl, wf2⟩ := open_int Try.underlying3 (hval 2 3 v2 rfl rfl) h2
  obtain ⟨x3, rfl, rfl, rfl, wf3⟩ := open_int Try.underlying3 (hval 3 3 v3 rfl rfl) h3
  obtain ⟨c0, c1, c2, c3, y0, y1, y2, y3, m, rfl, rfl, rfl, hy0, hy1, hy2, hy3⟩ := open_agg4 Try.underlying24 (by kernel_rfl) (by kernel_rfl) (hval 0 24 v0 rfl rfl) h0
  have hsz2 : (DataW.weightsEach Try.prog [3, 3, 22, 22] [y0.1, y1.1, y2.1, y3.1]).all (· ≤ reachBytes) = true := by
    rw [List.all_eq_true]
    intro n hn
    exact List.all_eq_true.1 hsz n (DataW.weights_mem_each (j := 0) (t := 24) (d := .agg [y0.1, y1.1, y2.1, y3.1]) rfl rfl n (by simp only [DataW.weights, Try.underlying24]; exact hn))
  obtain ⟨a, e0, -, wa⟩ := DataW.trod_int Try.underlying3 hy0
  obtain ⟨b, e1, -, wb⟩ := DataW.trod_int Try.underlying3 hy1
  obtain ⟨a2, len2, cap2, z2, rfl, w2⟩ := opened hy2
  obtain ⟨a3, len3, cap3, z3, rfl, w3⟩ := opened hy3
  have z2_ : len2 * 8 ≤ 140737488351232 := sized_ints hsz2 (j := 2) (t := 22) rfl rfl Try.underlying22 Try.underlying3 (by kernel_rfl) (by kernel_rfl) (⟨m, by simpa [Value.cells] using hy2⟩ : DataW.Trod enc Try.prog W 0 (fun _ => true) true 22 (.slice a2 len2 cap2) y2.1 y2.2)
  have z3_ : len3 * 8 ≤ 140737488351232 := sized_ints hsz2 (j := 3) (t := 22) rfl rfl Try.underlying22 Try.underlying3 (by kernel_rfl) (by kernel_rfl) (⟨m, by simpa [Value.cells] using hy3⟩ : DataW.Trod enc Try.prog W 0 (fun _ => true) true 22 (.slice a3 len3 cap3) y3.1 y3.2)
  obtain rfl : c0 = .int .i64 a := by simpa using e0
  obtain rfl : c1 = .int .i64 b := by simpa using e1
  clear hA0 hval0 hsz0 hsz hsz2
  refine (walk a b a2 len2 cap2 z2 a3 len3 cap3 z3 x1 x2 x3 W w2 w3 z2_ z3_).mono fun e W' ⟨he, bel⟩ => ?_
  subst he
  exact ⟨_, rfl, _, _, _, [], _, [], hW', trodAll_mk1 (shut_bool Try.underlying4 _), (trodAll_cons_mk (Below.trod laidOut (by kernel_rfl) (of_decide_eq_true (by kernel_rfl)) k0 bel lt0) (trodAll_cons_mk (shut_bool Try.underlying4 x1) (trodAll_cons_mk (shut_int Try.underlying3 wf2) (trodAll_cons_mk (shut_int Try.underlying3 wf3) trodAll_mk0)))), rfl, bel.frame _, fun h => by cases h⟩
theorem k0_ : (Rows.fnExactSquaresThroughRow.wf (OpenSpec.ofChange Rows.fnExactSquaresThroughSpec)) = true := by kernel_rfl
theorem k1_ : (laidOutB Try.prog) = true := Closed.laidOut
theorem k2_ : (mapsRowed Try.prog) = true := Closed.mapsRowedP
theorem k3_ : (Try.f7.params.all (Try.prog.readableRec ·)) = true := by kernel_rfl
theorem k4_ : (namedTie Try.prog Rows.fnExactSquaresThroughRow.named Rows.fnExactSquaresThroughSpec.vars) = true := by kernel_rfl
theorem k5_ : ((Rows.fnExactSquaresThroughRow.stops == [])) = true := by kernel_rfl
theorem k6_ : ((Try.prog.stops == [])) = true := Closed.noStops
theorem k7_ : ((Rows.fnExactSquaresThroughRow.knobs == [])) = true := by kernel_rfl
theorem k8_ : ((Try.prog.stopKnobs == [])) = true := Closed.noKnobs
theorem k9_ : ((Rows.fnExactSquaresThroughRow.inPlace == Try.prog.inPlace 7)) = true := by kernel_rfl
theorem k10_ : ((Rows.fnExactSquaresThroughRow.unfollowed == Try.prog.unfollowed 7)) = true := by kernel_rfl
theorem k11_ : ((Rows.fnExactSquaresThroughRow.recurses == Try.prog.recurses 7)) = true := by kernel_rfl
theorem k12_ : ((Rows.fnExactSquaresThroughRow.named == Try.prog.varsNamed 7)) = true := by kernel_rfl
theorem k13_ : ((Rows.fnExactSquaresThroughRow.maps == (Try.f7.params.toList ++ Rows.fnExactSquaresThroughSpec.plain.varTypes Try.prog).any (Try.prog.mapsRec ·))) = true := by kernel_rfl
theorem k14_ : ((Rows.fnExactSquaresThroughRow.ifaces == (Try.f7.params.toList ++ Rows.fnExactSquaresThroughSpec.plain.varTypes Try.prog).any (Try.prog.ifacesRec ·))) = true := by kernel_rfl
theorem k15_ : ((Rows.fnExactSquaresThroughRow.mapsOut == Try.prog.mapsAmong Try.f7.resultTypes.toList)) = true := by kernel_rfl
theorem k16_ : ((Rows.fnExactSquaresThroughRow.loops == (Try.f7.params.toList ++ Rows.fnExactSquaresThroughSpec.plain.varTypes Try.prog).any (Try.prog.loopsFrom ·))) = true := by kernel_rfl
theorem k17_ : ((Rows.fnExactSquaresThroughRow.wideKeys == (Try.f7.params.toList ++ Rows.fnExactSquaresThroughSpec.plain.varTypes Try.prog ++ Try.f7.resultTypes.toList).any (Try.prog.wideKeysFrom ·))) = true := by kernel_rfl
theorem k18_ : (Rows.fnExactSquaresThroughSpec.vars.all (Try.prog.varReadable ·)) = true := by kernel_rfl
theorem k19_ : (Try.f7.resultTypes.all (fun t => Try.prog.readableRec t && decide (t < Try.prog.types.size))) = true := by kernel_rfl
theorem k20_ : ((Rows.fnExactSquaresThroughRow.ifacesOut == Try.f7.resultTypes.toList.any (Try.prog.ifacesRec ·))) = true := by kernel_rfl
theorem k21_ : ((Rows.fnExactSquaresThroughRow.loopsOut == Try.f7.resultTypes.toList.any (Try.prog.loopsFrom ·))) = true := by kernel_rfl
theorem k22_ : ((Rows.fnExactSquaresThroughRow.plainKeys == Try.prog.plainKeys)) = true := by kernel_rfl
theorem k23_ : (Rows.fnExactSquaresThroughRow.shortTexts.isNone) = true := by kernel_rfl
theorem k24_ : (Try.prog.stopsHeard) = true := Closed.stopsHeard
theorem k25_ : (Try.prog.mayEnter) = true := Closed.mayEnter
theorem k26_ : ((Rows.fnExactSquaresThroughRow.lifted == Try.prog.liftsFinal)) = true := by rw [Closed.liftsFinal]; kernel_rfl
theorem k27_ : ((Try.prog.make == some Rows.fnExactSquaresThroughRow.make)) = true := by rw [Closed.make]; kernel_rfl
theorem k28_ : ((Rows.fnExactSquaresThroughRow.kinds == [])) = true := by kernel_rfl
theorem k29_ : ((Rows.fnExactSquaresThroughRow.pinned == Rows.fnExactSquaresThroughRow.pinnedBy)) = true := by kernel_rfl
theorem k30_ : ((Rows.fnExactSquaresThroughRow.veiled == (Try.f7.params.toList ++ Rows.fnExactSquaresThroughSpec.plain.varTypes Try.prog ++ Try.f7.resultTypes.toList).any (Try.prog.veiledRec ·))) = true := by kernel_rfl
theorem k31_ : (Rows.fnExactSquaresThroughRow.veiledFits Try.prog Try.f7.params.toList (Try.f7.params.toList ++ Rows.fnExactSquaresThroughSpec.plain.varTypes Try.prog ++ Try.f7.resultTypes.toList)) = true := by kernel_rfl
theorem k99_ : (Rows.fnExactSquaresThroughRow.domain.isEmpty) = true := by kernel_rfl
theorem closed : joinedFacts Try.prog 7 Try.f7 Rows.fnExactSquaresThroughSpec Rows.fnExactSquaresThroughRow = true :=
  joined_mk _ _ _ _ _ k0_ k1_ k2_ k3_ k4_ k5_ k6_ k7_ k8_ k9_ k10_ k11_ k12_ k13_ k14_ k15_ k16_ k17_ k18_ k19_ k20_ k21_ k22_ k23_ k24_ k25_ k26_ k27_ k99_ k28_ k29_ k30_ k31_
theorem over : Rows.fnExactSquaresThroughRow.holds Try.pinned (OpenSpec.ofChange Rows.fnExactSquaresThroughSpec) :=
  OpenClaim.holds_of_wide 7 Try.f7 rfl rfl rfl rfl rfl rfl rfl ⟨rfl, rfl, rfl, rfl, rfl⟩ rfl rfl rfl rfl rfl (by kernel_rfl) Try.func7 closed
    (of_decide_eq_true (by kernel_rfl)) (by unfold Func.isWrapper; first | (rw [if_pos (by decide +kernel)]; kernel_rfl) | (rw [if_neg (by decide +kernel)]; exact ⟨rfl, rfl⟩))
    (fun os started H enc _ => lifted os started H enc)
theorem proved : Rows.FnExactSquaresThroughSaid := over
end Go.Proofs.Ytjhndaehdbjgkaa.fnExactSquaresThrough
namespace Go.Proofs.Ytjhndaehdbjgkaa
theorem fnExactSquaresThrough_holds : Rows.FnExactSquaresThroughSaid := fnExactSquaresThrough.proved
end Go.Proofs.Ytjhndaehdbjgkaa

