/- For every input the law FnExactOddCorners answers true: the program's OddCorners tells what the reference's OddCorners tells; no condition. (part 5 of the proof; the words of the kit's print tool and the texts of this seat, merged by a program) -/
import Derived.Below
import Derived.ChangeOld
import Derived.JoinedOf
import Derived.Lib.SmallJoins
import Derived.OpenShut
import Derived.ProofKit
import Derived.SizedLaws
import Derived.Test.YtjhndaehdbjgkaaClosed
import Derived.Test.YtjhndaehdbjgkaaRows
import Derived.WalkKit
import Derived.Test.YtjhndaehdbjgkaaMOC4
namespace Go.Proofs.Ytjhndaehdbjgkaa.P
open Go.RowKit Go.Proofs.YtjhndaehdbjgkaaW.PrintWords Go.Proofs.YtjhndaehdbjgkaaW.PrintLast Go.Proofs.YtjhndaehdbjgkaaW.PrintMore
attribute [local go_sem] max2_int min2_int max_two min_two max_three min_three max_four min_four   -- for this text's walks alone
set_option linter.unusedVariables false
set_option linter.unusedSimpArgs false

def spec_CornersUsed.f (k : Nat) (a0_0 : Int) (a0_1 : Int) (l0_2 : List Int) (l0_3 : List Int) : Option ((List (S36)) × Bool) := (spec_fiGood.f k a0_0 a0_1 l0_2 l0_3).bind fun t669 => (if t669 = true then ((spec_liUsed.f k a0_0 a0_1 l0_2 l0_3).bind fun t670 => (some (t670, true))) else (some (([] : List (S36)), false)))
theorem spec_CornersUsed.mono : ∀ a0 a1 a2 a3 k, LeO (spec_CornersUsed.f k a0 a1 a2 a3) (spec_CornersUsed.f (k + 1) a0 a1 a2 a3) := by
  intro a0 a1 a2 a3 k
  unfold spec_CornersUsed.f
  repeat' first
      | (with_reducible exact spec_fiGood.mono _ _ _ _ _)
      | (with_reducible exact spec_liUsed.mono _ _ _ _ _)
      | (with_reducible exact LeO.refl _)
      | (with_reducible exact LeO.none _)
      | (with_reducible refine LeO.ite ?_ ?_)
      | (with_reducible refine LeO.bind ?_ (fun _ => ?_))
      | exact spec_fiGood.mono _ _ _ _ _
      | exact spec_liUsed.mono _ _ _ _ _
      | exact LeO.none _
      | refine LeO.ite ?_ ?_
      | refine LeO.bind ?_ (fun _ => ?_)
set_option maxHeartbeats 8000000 in
set_option maxRecDepth 100000 in
theorem spec_CornersUsed.calls (k : Nat) (a0_0 : Int) (a0_1 : Int) (A0_2 : Option Addr) (c0_2 : Nat) (l0_2 : List Int) (A0_3 : Option Addr) (c0_3 : Nat) (l0_3 : List Int) (r1 : List (S36)) (r2 : Bool) (w : World) (hr0_2 : Kd.C (Kd.int .i64) w A0_2 l0_2.length l0_2) (hc0_2 : l0_2.length ≤ c0_2) (hr0_3 : Kd.C (Kd.int .i64) w A0_3 l0_3.length l0_3) (hc0_3 : l0_3.length ≤ c0_3) (h : spec_CornersUsed.f k a0_0 a0_1 l0_2 l0_3 = some (r1, r2)) :
    Calls Try.prog 44 #[.agg #[.int .i64 a0_0, .int .i64 a0_1, .slice A0_2 l0_2.length c0_2, .slice A0_3 l0_3.length c0_3]] w fun e w' => ∃ v0_ : Value, e = .returned (.tuple #[v0_, .bool r2]) ∧ Kd.R k36 36 w' w.heap.size (fun _ => True) v0_ r1 ∧ Below w.heap.size w w' := by
  have hu28 := Try.underlying28
  have HR0_2 := Aside0.mk hr0_2
  have HC0_2 := Aside0.mk hc0_2
  clear hr0_2 hc0_2
  have HR0_3 := Aside0.mk hr0_3
  have HC0_3 := Aside0.mk hc0_3
  clear hr0_3 hc0_3
  have HB := Aside0.mk (Below.refl w.heap.size w)
  have H : ((spec_fiGood.f k a0_0 a0_1 l0_2 l0_3).bind fun t669 => (if t669 = true then ((spec_liUsed.f k a0_0 a0_1 l0_2 l0_3).bind fun t670 => (some (t670, true))) else (some (([] : List (S36)), false)))) = some (r1, r2) := h
  clear h
  replace H := Option.bind_eq_some_iff.mp H
  obtain ⟨t669, A20, H⟩ := H
  replace H : (if t669 = true then ((spec_liUsed.f k a0_0 a0_1 l0_2 l0_3).bind fun t670 => (some (t670, true))) else (some (([] : List (S36)), false))) = some (r1, r2) := H
  have A2 := Aside0.mk A20
  clear A20
  by_cases c3 : t669 = true
  · subst c3
    have H1 : ((spec_liUsed.f k a0_0 a0_1 l0_2 l0_3).bind fun t670 => (some (t670, true))) = some (r1, r2) := by rw [if_pos rfl] at H; exact H
    clear H
    have H := H1
    clear H1
    replace H := Option.bind_eq_some_iff.mp H
    obtain ⟨t670, A40, H⟩ := H
    replace H : (some (t670, true)) = some (r1, r2) := H
    have A4 := Aside0.mk A40
    clear A40
    simp only [Option.some.injEq, Prod.mk.injEq] at H
    obtain ⟨rfl, rfl⟩ := H
    go_enter Try.func44, Try.ntmps44
    go_wp2_with (first | ((with_reducible refine gate_dst (N := 1) rfl ?_); refine box_event ?hg (N := 1) ?hd (cs := #[.int .i64 a0_0, .int .i64 a0_1, .slice A0_2 l0_2.length c0_2, .slice A0_3 l0_3.length c0_3]) (t := 28) ?hr ?_; (case hd => rfl); (case hg => rfl); (case hr => first | (go_simp; done) | (go_simp; rfl)); intro gb668 hg w5 hbox hb; have n0_ := Aside0.mk (below_step (by repeat (first | (with_reducible first | exact HB.out | apply below_alloc | apply pw_below_drewN | apply below_drew1) | exact HB.out)) hb); have n1_ := Aside0.mk (hbox); have n2_ := Aside0.mk ((by rw [hg]; exact (below_size (by repeat (first | (with_reducible first | exact HB.out | apply below_alloc | apply pw_below_drewN | apply below_drew1) | exact HB.out))) : w.heap.size ≤ gb668)); have n3_ := Aside0.mk ((by rw [hg]; exact (below_size (by repeat (first | (with_reducible first | exact HB.out | apply below_alloc | apply pw_below_drewN | apply below_drew1) | exact HB.out))) : w.heap.size ≤ gb668)); clear HB; have HB := n0_; have BK668 := n1_; have GW668 := n2_; have GE668 := n3_; clear n0_ n1_ n2_ n3_; clear hb hbox hg; have hcz6_0 : w5.cell? ⟨gb668, 0, none⟩ = some (.int .i64 a0_0) := (blk_cell BK668.out 0).trans rfl; have hcz6_1 : w5.cell? ⟨gb668, 1, none⟩ = some (.int .i64 a0_1) := (blk_cell BK668.out 1).trans rfl; have hcz6_2 : w5.cell? ⟨gb668, 2, none⟩ = some (.slice A0_2 l0_2.length c0_2) := (blk_cell BK668.out 2).trans rfl; have hcz6_3 : w5.cell? ⟨gb668, 3, none⟩ = some (.slice A0_3 l0_3.length c0_3) := (blk_cell BK668.out 3).trans rfl; have hfz6_0 := blk_frozen BK668.out 0; have hfz6_1 := blk_frozen BK668.out 1; have hfz6_2 := blk_frozen BK668.out 2; have hfz6_3 := blk_frozen BK668.out 3) | ((with_reducible refine gate_callee (f := 64) rfl ?_); refine goesL_ (some 5) rfl rfl Try.func64 (by kernel_rfl) rfl #[.agg #[.int .i64 a0_0, .int .i64 a0_1, .slice A0_2 l0_2.length c0_2, .slice A0_3 l0_3.length c0_3]] rfl (by (try simp only [List.map_toArray, List.map_cons, List.map_nil]); first | done | rfl | (simp only [List.length_drop, List.length_take]; rfl)) ?_; (with_reducible refine (spec_fiGood.calls k a0_0 a0_1 _ _ l0_2 _ _ l0_3 true _ ?side1 ?side2 ?side3 ?side4 A2.out).mono ?_); (case side1 => repeat (first | exact (Kd.C_below HR0_2.out HB.out) | (with_reducible refine Kd.C_alloc ?_ _) | (with_reducible refine Kd.C_drewN ?_ _) | (with_reducible refine Kd.C_drew ?_))); (case side2 => exact HC0_2.out); (case side3 => repeat (first | exact (Kd.C_below HR0_3.out HB.out) | (with_reducible refine Kd.C_alloc ?_ _) | (with_reducible refine Kd.C_drewN ?_ _) | (with_reducible refine Kd.C_drew ?_))); (case side4 => exact HC0_3.out); rintro e w7 ⟨rfl, hb⟩; refine ⟨_, rfl, ?_⟩; have n0_ := Aside0.mk (blk_below (g := gb668) (o := .cells #[.int .i64 a0_0, .int .i64 a0_1, .slice A0_2 l0_2.length c0_2, .slice A0_3 l0_3.length c0_3] 28 (0, 0)) (by (with_reducible repeat (first | refine blk_drewN ?_ _ | refine blk_drew ?_ | refine blk_alloc ?_ _)); exact BK668.out) hb); have n1_ := Aside0.mk (below_step (by repeat (first | (with_reducible first | exact HB.out | apply below_alloc | apply pw_below_drewN | apply below_drew1 | refine below_set ?_ GE668.out) | exact HB.out)) hb); clear BK668; clear HB; have BK668 := n0_; have HB := n1_; clear n0_ n1_; (try clear hb); (try clear hb2); (try clear hk); (try clear hi); have hcz8_0 : w7.cell? ⟨gb668, 0, none⟩ = some (.int .i64 a0_0) := (blk_cell BK668.out 0).trans rfl; have hcz8_1 : w7.cell? ⟨gb668, 1, none⟩ = some (.int .i64 a0_1) := (blk_cell BK668.out 1).trans rfl; have hcz8_2 : w7.cell? ⟨gb668, 2, none⟩ = some (.slice A0_2 l0_2.length c0_2) := (blk_cell BK668.out 2).trans rfl; have hcz8_3 : w7.cell? ⟨gb668, 3, none⟩ = some (.slice A0_3 l0_3.length c0_3) := (blk_cell BK668.out 3).trans rfl; have hfz8_0 := blk_frozen BK668.out 0; have hfz8_1 := blk_frozen BK668.out 1; have hfz8_2 := blk_frozen BK668.out 2; have hfz8_3 := blk_frozen BK668.out 3) | ((with_reducible refine gate_callee (f := 101) rfl ?_); refine goesL_ (some 8) rfl rfl Try.func101 (by kernel_rfl) rfl #[.agg #[.int .i64 a0_0, .int .i64 a0_1, .slice A0_2 l0_2.length c0_2, .slice A0_3 l0_3.length c0_3]] rfl (by (try simp only [List.map_toArray, List.map_cons, List.map_nil]); first | done | rfl | (simp only [List.length_drop, List.length_take]; rfl)) ?_; (with_reducible refine (spec_liUsed.calls k a0_0 a0_1 _ _ l0_2 _ _ l0_3 t670 _ ?side1 ?side2 ?side3 ?side4 A4.out).mono ?_); (case side1 => repeat (first | exact (Kd.C_below HR0_2.out HB.out) | (with_reducible refine Kd.C_alloc ?_ _) | (with_reducible refine Kd.C_drewN ?_ _) | (with_reducible refine Kd.C_drew ?_))); (case side2 => exact HC0_2.out); (case side3 => repeat (first | exact (Kd.C_below HR0_3.out HB.out) | (with_reducible refine Kd.C_alloc ?_ _) | (with_reducible refine Kd.C_drewN ?_ _) | (with_reducible refine Kd.C_drew ?_))); (case side4 => exact HC0_3.out); rintro e w9 ⟨v671, rfl, ho0, hb⟩; refine ⟨_, rfl, ?_⟩; have n0_ := Aside0.mk (Kd.R_lower ho0 (below_size (by repeat (first | (with_reducible first | exact HB.out | apply below_alloc | apply pw_below_drewN | apply below_drew1 | refine below_set ?_ GE668.out) | exact HB.out)))); have n1_ := Aside0.mk (blk_below (g := gb668) (o := .cells #[.int .i64 a0_0, .int .i64 a0_1, .slice A0_2 l0_2.length c0_2, .slice A0_3 l0_3.length c0_3] 28 (0, 0)) (by (with_reducible repeat (first | refine blk_drewN ?_ _ | refine blk_drew ?_ | refine blk_alloc ?_ _)); exact BK668.out) hb); have n2_ := Aside0.mk (below_step (by repeat (first | (with_reducible first | exact HB.out | apply below_alloc | apply pw_below_drewN | apply below_drew1 | refine below_set ?_ GE668.out) | exact HB.out)) hb); clear BK668; clear HB; have HO672 := n0_; have BK668 := n1_; have HB := n2_; clear n0_ n1_ n2_; (try clear hb); (try clear hb2); (try clear hk); (try clear hi); (try clear ho0)))
    go_ret2
    exact ⟨_, by first | rfl | (simp [errW_none, errW_some] <;> rfl) | (simp [*, errW_none, errW_some] <;> rfl), by (with_reducible repeat (first | apply Kd.R_alloc | apply Kd.R_drewN | apply Kd.R_drew)); exact HO672.out, by repeat (first | (with_reducible first | exact HB.out | apply below_alloc | apply pw_below_drewN | apply below_drew1 | refine below_set ?_ GE668.out) | exact HB.out)⟩
  · replace c3 := Bool.eq_false_iff.mpr c3
    subst c3
    have H1 : (some (([] : List (S36)), false)) = some (r1, r2) := by rw [if_neg (show ¬ (false = true) by decide)] at H; exact H
    clear H
    have H := H1
    clear H1
    simp only [Option.some.injEq, Prod.mk.injEq] at H
    obtain ⟨rfl, rfl⟩ := H
    go_enter Try.func44, Try.ntmps44
    go_wp2_with (first | ((with_reducible refine gate_dst (N := 1) rfl ?_); refine box_event ?hg (N := 1) ?hd (cs := #[.int .i64 a0_0, .int .i64 a0_1, .slice A0_2 l0_2.length c0_2, .slice A0_3 l0_3.length c0_3]) (t := 28) ?hr ?_; (case hd => rfl); (case hg => rfl); (case hr => first | (go_simp; done) | (go_simp; rfl)); intro gb668 hg w10 hbox hb; have n0_ := Aside0.mk (below_step (by repeat (first | (with_reducible first | exact HB.out | apply below_alloc | apply pw_below_drewN | apply below_drew1) | exact HB.out)) hb); have n1_ := Aside0.mk (hbox); have n2_ := Aside0.mk ((by rw [hg]; exact (below_size (by repeat (first | (with_reducible first | exact HB.out | apply below_alloc | apply pw_below_drewN | apply below_drew1) | exact HB.out))) : w.heap.size ≤ gb668)); have n3_ := Aside0.mk ((by rw [hg]; exact (below_size (by repeat (first | (with_reducible first | exact HB.out | apply below_alloc | apply pw_below_drewN | apply below_drew1) | exact HB.out))) : w.heap.size ≤ gb668)); clear HB; have HB := n0_; have BK668 := n1_; have GW668 := n2_; have GE668 := n3_; clear n0_ n1_ n2_ n3_; clear hb hbox hg; have hcz11_0 : w10.cell? ⟨gb668, 0, none⟩ = some (.int .i64 a0_0) := (blk_cell BK668.out 0).trans rfl; have hcz11_1 : w10.cell? ⟨gb668, 1, none⟩ = some (.int .i64 a0_1) := (blk_cell BK668.out 1).trans rfl; have hcz11_2 : w10.cell? ⟨gb668, 2, none⟩ = some (.slice A0_2 l0_2.length c0_2) := (blk_cell BK668.out 2).trans rfl; have hcz11_3 : w10.cell? ⟨gb668, 3, none⟩ = some (.slice A0_3 l0_3.length c0_3) := (blk_cell BK668.out 3).trans rfl; have hfz11_0 := blk_frozen BK668.out 0; have hfz11_1 := blk_frozen BK668.out 1; have hfz11_2 := blk_frozen BK668.out 2; have hfz11_3 := blk_frozen BK668.out 3) | ((with_reducible refine gate_callee (f := 64) rfl ?_); refine goesL_ (some 5) rfl rfl Try.func64 (by kernel_rfl) rfl #[.agg #[.int .i64 a0_0, .int .i64 a0_1, .slice A0_2 l0_2.length c0_2, .slice A0_3 l0_3.length c0_3]] rfl (by (try simp only [List.map_toArray, List.map_cons, List.map_nil]); first | done | rfl | (simp only [List.length_drop, List.length_take]; rfl)) ?_; (with_reducible refine (spec_fiGood.calls k a0_0 a0_1 _ _ l0_2 _ _ l0_3 false _ ?side1 ?side2 ?side3 ?side4 A2.out).mono ?_); (case side1 => repeat (first | exact (Kd.C_below HR0_2.out HB.out) | (with_reducible refine Kd.C_alloc ?_ _) | (with_reducible refine Kd.C_drewN ?_ _) | (with_reducible refine Kd.C_drew ?_))); (case side2 => exact HC0_2.out); (case side3 => repeat (first | exact (Kd.C_below HR0_3.out HB.out) | (with_reducible refine Kd.C_alloc ?_ _) | (with_reducible refine Kd.C_drewN ?_ _) | (with_reducible refine Kd.C_drew ?_))); (case side4 => exact HC0_3.out); rintro e w12 ⟨rfl, hb⟩; refine ⟨_, rfl, ?_⟩; have n0_ := Aside0.mk (blk_below (g := gb668) (o := .cells #[.int .i64 a0_0, .int .i64 a0_1, .slice A0_2 l0_2.length c0_2, .slice A0_3 l0_3.length c0_3] 28 (0, 0)) (by (with_reducible repeat (first | refine blk_drewN ?_ _ | refine blk_drew ?_ | refine blk_alloc ?_ _)); exact BK668.out) hb); have n1_ := Aside0.mk (below_step (by repeat (first | (with_reducible first | exact HB.out | apply below_alloc | apply pw_below_drewN | apply below_drew1 | refine below_set ?_ GE668.out) | exact HB.out)) hb); clear BK668; clear HB; have BK668 := n0_; have HB := n1_; clear n0_ n1_; (try clear hb); (try clear hb2); (try clear hk); (try clear hi)))
    go_ret2
    exact ⟨_, by first | rfl | (simp [errW_none, errW_some] <;> rfl) | (simp [*, errW_none, errW_some] <;> rfl), by first | exact Kd.R_nil _ _ _ _ _ | exact Kd.N_nil _ _ _ _ _ | exact Kd.V_nil _ _ _ _ _ | exact Kd.Q_nil _ _ _ _ _ | exact Kd.S_nil _ _ _ _ _, by repeat (first | (with_reducible first | exact HB.out | apply below_alloc | apply pw_below_drewN | apply below_drew1 | refine below_set ?_ GE668.out) | exact HB.out)⟩

end Go.Proofs.Ytjhndaehdbjgkaa.P


namespace Go.Proofs.Ytjhndaehdbjgkaa.P
open Go.RowKit Go.Proofs.YtjhndaehdbjgkaaW.PrintWords Go.Proofs.YtjhndaehdbjgkaaW.PrintLast Go.Proofs.YtjhndaehdbjgkaaW.PrintMore
attribute [local go_sem] max2_int min2_int max_two min_two max_three min_three max_four min_four   -- for this text's walks alone
set_option linter.unusedVariables false
set_option linter.unusedSimpArgs false

def impl_isSome.f (a0 : Int) : Option (Bool) := some (decide (a0 > 0))
set_option maxHeartbeats 8000000 in
set_option maxRecDepth 100000 in
theorem impl_isSome.calls (a0 : Int) (r : Bool) (w : World) (h : impl_isSome.f a0 = some r) :
    Calls Try.prog 102 #[.int .i64 a0] w fun e w' => e = .returned (.bool r) ∧ Drawn0 w w' := by
  have H : (some (decide (a0 > 0))) = some r := h
  clear h
  obtain rfl := Option.some.inj H
  go_enter Try.func102, Try.ntmps102
  go_wp2
  go_ret
  exact ⟨by first | rfl | (simp; done) | (simp [*]; done), by repeat (first | exact Drawn0.refl _ | apply Drawn0.step)⟩

end Go.Proofs.Ytjhndaehdbjgkaa.P


namespace Go.Proofs.Ytjhndaehdbjgkaa.P
open Go.RowKit Go.Proofs.YtjhndaehdbjgkaaW.PrintWords Go.Proofs.YtjhndaehdbjgkaaW.PrintLast Go.Proofs.YtjhndaehdbjgkaaW.PrintMore
attribute [local go_sem] max2_int min2_int max_two min_two max_three min_three max_four min_four   -- for this text's walks alone
set_option linter.unusedVariables false
set_option linter.unusedSimpArgs false

theorem used_pred (w : World) : PredI 102 #[] (fun n => decide (0 < n)) w := by
  intro W x _
  show Calls Try.prog 102 #[.int .i64 x] W _
  have h : impl_isSome.f x = some (decide (0 < x)) := by first | rfl | (unfold impl_isSome.f; simp)
  refine (impl_isSome.calls x _ W h).mono ?_
  rintro e w' ⟨rfl, hd⟩
  exact ⟨rfl, hd.below⟩
noncomputable def impl_CornersUsed.f (k : Nat) (a0_0 : Int) (a0_1 : Int) (l0_2 : List Int) (l0_3 : List Int) : Option (List S36 × Bool) := impl_cornersOf.f (fun n => decide (0 < n)) k a0_0 a0_1 l0_2 l0_3
theorem impl_CornersUsed.mono : ∀ a0 a1 a2 a3 k, LeO (impl_CornersUsed.f k a0 a1 a2 a3) (impl_CornersUsed.f (k + 1) a0 a1 a2 a3) := fun a0 a1 a2 a3 k => impl_cornersOf.mono _ a0 a1 a2 a3 k
set_option maxRecDepth 100000 in
set_option maxHeartbeats 4000000 in
theorem impl_CornersUsed.calls (k : Nat) (a0_0 : Int) (a0_1 : Int) (A0_2 : Option Addr) (c0_2 : Nat) (l0_2 : List Int) (A0_3 : Option Addr) (c0_3 : Nat) (l0_3 : List Int) (r1 : List S36) (r2 : Bool) (w : World) (hr0_2 : Kd.C (Kd.int .i64) w A0_2 l0_2.length l0_2) (hc0_2 : l0_2.length ≤ c0_2) (hr0_3 : Kd.C (Kd.int .i64) w A0_3 l0_3.length l0_3) (hc0_3 : l0_3.length ≤ c0_3) (h : impl_CornersUsed.f k a0_0 a0_1 l0_2 l0_3 = some (r1, r2)) :
    Calls Try.prog 45 #[.agg #[.int .i64 a0_0, .int .i64 a0_1, .slice A0_2 l0_2.length c0_2, .slice A0_3 l0_3.length c0_3]] w fun e w' => ∃ v0_ : Value, e = .returned (.tuple #[v0_, .bool r2]) ∧ Kd.R k36 36 w' w.heap.size (fun _ => True) v0_ r1 ∧ Below w.heap.size w w' := by
  have ega : ∀ args w, (callFunc 102 args).run Try.prog w = .ok (.enter 102 args) w := enters_of Try.func102 (by kernel_rfl) rfl
  have hcon := impl_cornersOf_calls 102 #[] (fun n => decide (0 < n)) ega k a0_0 a0_1 A0_2 c0_2 l0_2 A0_3 c0_3 l0_3 r1 r2 (w.alloc (.cells #[.int .i64 a0_0, .int .i64 a0_1, .slice A0_2 l0_2.length c0_2, .slice A0_3 l0_3.length c0_3] 28)) (Kd.C_alloc hr0_2 _) hc0_2 (Kd.C_alloc hr0_3 _) hc0_3 (used_pred _) h
  clear hr0_2 hr0_3 hc0_2 hc0_3 h ega
  go_enter Try.func45, Try.ntmps45
  go_wp2_with (go_at_call 99; refine hcon.mono ?_; rintro e w1 ⟨v, rfl, ho, hb⟩; have HO := Aside0.mk ho; clear ho)
  go_ret2
  exact ⟨_, rfl, Kd.R_lower HO.out (by simp), (below_alloc (Below.refl _ _) _).trans (hb.mono (by simp))⟩

end Go.Proofs.Ytjhndaehdbjgkaa.P


namespace Go.Proofs.Ytjhndaehdbjgkaa.P
open Go.RowKit Go.Proofs.YtjhndaehdbjgkaaW.PrintWords Go.Proofs.YtjhndaehdbjgkaaW.PrintLast Go.Proofs.YtjhndaehdbjgkaaW.PrintMore
attribute [local go_sem] max2_int min2_int max_two min_two max_three min_three max_four min_four   -- for this text's walks alone
set_option linter.unusedVariables false
set_option linter.unusedSimpArgs false

theorem l1Has_l0 (l : List Int) (n : Int) (hL : l.length ≤ 4000000) : ∀ (d k i : Nat), l.length - i = d → i ≤ l.length → d < k → spec_l1Has.l0 k n l (l.length : Int) (i : Int) = some (decide (n ∈ l.drop i)) := by
  intro d
  induction d with
  | zero =>
    intro k i h1 h3 h4
    obtain ⟨k, rfl⟩ : ∃ m, k = m + 1 := ⟨k - 1, by omega⟩
    simp only [spec_l1Has.l0]
    rw [if_neg (by omega), List.drop_of_length_le (by omega)]
    rfl
  | succ d ih =>
    intro k i h1 h3 h4
    obtain ⟨k, rfl⟩ : ∃ m, k = m + 1 := ⟨k - 1, by omega⟩
    have e2 : wrap64 ((i : Int) + 1) = ((i + 1 : Nat) : Int) := by unfold wrap64; omega
    simp only [spec_l1Has.l0]
    rw [if_pos (by omega), if_pos (by omega), if_pos (by omega), rd_nat l i (by omega), e2, ih k (i + 1) (by omega) (by omega) (by omega), List.drop_eq_getElem_cons (show i < l.length by omega)]
    by_cases hn : l[i] = n
    · rw [if_pos hn, decide_eq_true (show n ∈ l[i] :: l.drop (i + 1) by rw [hn]; exact List.mem_cons_self)]
    · rw [if_neg hn]
      congr 1
      rw [decide_eq_decide, List.mem_cons]
      constructor
      · exact Or.inr
      · rintro (h | h)
        · exact absurd h.symm hn
        · exact h
theorem l1Has_f (l : List Int) (n : Int) (hL : l.length ≤ 4000000) (k : Nat) (hk : l.length < k) : spec_l1Has.f k l n = some (decide (n ∈ l)) := by
  unfold spec_l1Has.f
  exact l1Has_l0 l n hL l.length k 0 (by omega) (by omega) hk
theorem fiHas_level {w h : Int} {a u : List Int} (g : GridOK w h) (hf : figB w h a u = true) (ha : a.length ≤ 1000000) (k : Nat) (hk : 1000000 < k) (x y : Int) (hx0 : 0 ≤ x) (hx1 : x < w) (hy0 : 0 ≤ y) (hy1 : y ≤ h) :
    spec_fiHas.f k w h a u false x y = some ((figMask w h a u).testBit (y * w + x).toNat) := by
  have w1 := g.w1
  have w4 := g.w4
  have h1 := g.h1
  have h4 := g.h4
  obtain ⟨p1, p2⟩ := prod_b (w := w) (y := y) w1 (by omega) hy0 (by omega)
  have e0 : wrap64 (w - 1) = w - 1 := by unfold wrap64; omega
  have e1 : wrap64 (y * w) = y * w := by unfold wrap64; omega
  have e2 : wrap64 (y * w + x) = y * w + x := by unfold wrap64; omega
  have hlt : ((y * w + x).toNat : Int) < w * (h + 1) := by
    have c1 : y = 0 ∨ y = 1 ∨ y = 2 ∨ y = 3 ∨ y = 4 := by omega
    have c2 : h = 1 ∨ h = 2 ∨ h = 3 ∨ h = 4 := by omega
    clear e0 e1 e2 hf
    rcases c2 with rfl | rfl | rfl | rfl <;> rcases c1 with rfl | rfl | rfl | rfl | rfl <;> omega
  have ht : ((y * w + x).toNat : Int) = y * w + x := by omega
  unfold spec_fiHas.f spec_fiEdge.f
  rw [if_neg (by decide), l1In_f, Option.bind_some, e0, decide_eq_true hx0, decide_eq_true (show x ≤ w - 1 by omega), if_pos (show (true && true) = true from rfl), l1In_f, Option.bind_some, decide_eq_true hy0, decide_eq_true hy1, Option.bind_some, if_neg (show ¬ false = true by decide), e1, e2, l1Has_f a _ (by omega) k (by omega), Option.bind_some, figMask_level hf _ hlt, ht]
theorem fiHas_upright {w h : Int} {a u : List Int} (g : GridOK w h) (hf : figB w h a u = true) (hu : u.length ≤ 1000000) (k : Nat) (hk : 1000000 < k) (x y : Int) (hx0 : 0 ≤ x) (hx1 : x ≤ w) (hy0 : 0 ≤ y) (hy1 : y < h) :
    spec_fiHas.f k w h a u true x y = some ((figMask w h a u).testBit ((w * (h + 1)).toNat + (y * (w + 1) + x).toNat)) := by
  have w1 := g.w1
  have w4 := g.w4
  have h1 := g.h1
  have h4 := g.h4
  obtain ⟨p1, p2⟩ := prod_b (w := w + 1) (y := y) (by omega) (by omega) hy0 (by omega)
  have e0 : wrap64 (h - 1) = h - 1 := by unfold wrap64; omega
  have e3 : wrap64 (w + 1) = w + 1 := by unfold wrap64; omega
  have e1 : wrap64 (y * (w + 1)) = y * (w + 1) := by unfold wrap64; omega
  have e2 : wrap64 (y * (w + 1) + x) = y * (w + 1) + x := by unfold wrap64; omega
  have ht : ((y * (w + 1) + x).toNat : Int) = y * (w + 1) + x := by omega
  unfold spec_fiHas.f spec_fiEdge.f
  rw [if_pos rfl, l1In_f, Option.bind_some, e0, e3, decide_eq_true hx0, decide_eq_true hx1, if_pos (show (true && true) = true from rfl), l1In_f, Option.bind_some, Option.bind_some, if_pos rfl, e1, e2, l1Has_f u _ (by omega) k (by omega), Option.bind_some, figMask_upright hf, ht]
def stepB (w h : Int) (m : Nat) (x y d : Int) : Bool := match btwE w h x y d with | none => false | some e => m.testBit e
theorem bitE_step (w h : Int) (m : Nat) (x y d : Int) : bitE m (btwE w h x y d) = if stepB w h m x y d = true then 1 else 0 := rfl
theorem liNext_f {w h : Int} {a u : List Int} (g : GridOK w h) (hf : figB w h a u = true) (ha : a.length ≤ 1000000) (hu : u.length ≤ 1000000) (k : Nat) (hk : 1000000 < k) (x y : Int) (hc : inC w h x y) :
    spec_liNext.f k w h a u x y 0 = some (x, y - 1, stepB w h (figMask w h a u) x y 110) ∧ spec_liNext.f k w h a u x y 1 = some (x + 1, y, stepB w h (figMask w h a u) x y 101) ∧
    spec_liNext.f k w h a u x y 2 = some (x, y + 1, stepB w h (figMask w h a u) x y 115) ∧ spec_liNext.f k w h a u x y 3 = some (x - 1, y, stepB w h (figMask w h a u) x y 119) := by
  obtain ⟨⟨hx0, hx1⟩, hy0, hy1⟩ := id hc
  have w1 := g.w1
  have w4 := g.w4
  have h1 := g.h1
  have h4 := g.h4
  have wy1 : wrap64 (y - 1) = y - 1 := by unfold wrap64; omega
  have wy2 : wrap64 (y + 1) = y + 1 := by unfold wrap64; omega
  have wx1 : wrap64 (x - 1) = x - 1 := by unfold wrap64; omega
  have wx2 : wrap64 (x + 1) = x + 1 := by unfold wrap64; omega
  refine ⟨?_, ?_, ?_, ?_⟩
  · unfold spec_liNext.f stepB btwE
    rw [if_pos rfl, wy1, if_pos hc, if_pos rfl]
    by_cases hh : 0 < y
    · rw [if_pos (show y > 0 from hh), if_pos (show 1 ≤ y by omega), fiHas_upright g hf hu k hk x (y - 1) hx0 hx1 (by omega) (by omega), Option.bind_some]
    · rw [if_neg (show ¬ y > 0 from hh), if_neg (show ¬ 1 ≤ y by omega)]
  · unfold spec_liNext.f stepB btwE
    rw [if_neg (show ¬ (1 : Int) = 0 by decide), if_pos rfl, wx2, if_pos hc, if_neg (show ¬ (101 : Int) = 110 by decide), if_pos rfl]
    by_cases hh : x < w
    · rw [if_pos hh, if_pos hh, fiHas_level g hf ha k hk x y hx0 hh hy0 hy1, Option.bind_some]
    · rw [if_neg hh, if_neg hh]
  · unfold spec_liNext.f stepB btwE
    rw [if_neg (show ¬ (2 : Int) = 0 by decide), if_neg (show ¬ (2 : Int) = 1 by decide), if_pos rfl, wy2, if_pos hc, if_neg (show ¬ (115 : Int) = 110 by decide), if_neg (show ¬ (115 : Int) = 101 by decide), if_pos rfl]
    by_cases hh : y < h
    · rw [if_pos hh, if_pos hh, fiHas_upright g hf hu k hk x y hx0 hx1 hy0 hh, Option.bind_some]
    · rw [if_neg hh, if_neg hh]
  · unfold spec_liNext.f stepB btwE
    rw [if_neg (show ¬ (3 : Int) = 0 by decide), if_neg (show ¬ (3 : Int) = 1 by decide), if_neg (show ¬ (3 : Int) = 2 by decide), wx1, if_pos hc, if_neg (show ¬ (119 : Int) = 110 by decide), if_neg (show ¬ (119 : Int) = 101 by decide), if_neg (show ¬ (119 : Int) = 115 by decide)]
    by_cases hh : 0 < x
    · rw [if_pos (show x > 0 from hh), if_pos (show 1 ≤ x by omega), fiHas_level g hf ha k hk (x - 1) y (by omega) (by omega) hy0 hy1, Option.bind_some]
    · rw [if_neg (show ¬ x > 0 from hh), if_neg (show ¬ 1 ≤ x by omega)]
theorem liMeet_f {w h : Int} {a u : List Int} (g : GridOK w h) (hf : figB w h a u = true) (ha : a.length ≤ 1000000) (hu : u.length ≤ 1000000) (k : Nat) (hk : 1000010 < k) (x y : Int) (hc : inC w h x y) :
    spec_liMeet.f k w h a u x y = some (meetE w h (figMask w h a u) x y) := by
  obtain ⟨k, rfl⟩ : ∃ q, k = q + 5 := ⟨k - 5, by omega⟩
  have i1 : wrap64 ((0 : Int) + 1) = 1 := by unfold wrap64; omega
  have i2 : wrap64 ((1 : Int) + 1) = 2 := by unfold wrap64; omega
  have i3 : wrap64 ((2 : Int) + 1) = 3 := by unfold wrap64; omega
  have i4 : wrap64 ((3 : Int) + 1) = 4 := by unfold wrap64; omega
  have step : ∀ (k : Nat) (i acc d : Int) (p q : Int), i < 4 → 0 ≤ acc → acc ≤ 10 → spec_liNext.f k w h a u x y i = some (p, q, stepB w h (figMask w h a u) x y d) →
      spec_liMeet.l0 (k + 1) acc i w h a u x y = spec_liMeet.l0 k (acc + bitE (figMask w h a u) (btwE w h x y d)) (wrap64 (i + 1)) w h a u x y := fun k i acc d p q h4 ha0 ha1 hn => by
    simp only [spec_liMeet.l0]
    rw [if_pos h4, hn, Option.bind_some, bitE_step]
    by_cases hs : stepB w h (figMask w h a u) x y d = true
    · rw [if_pos hs, if_pos hs, show wrap64 (acc + 1) = acc + 1 by unfold wrap64; omega]
    · rw [if_neg hs, if_neg hs, Int.add_zero]
  have b0 := bitE_01 (figMask w h a u) (btwE w h x y 110)
  have b1 := bitE_01 (figMask w h a u) (btwE w h x y 101)
  have b2 := bitE_01 (figMask w h a u) (btwE w h x y 115)
  have b3 := bitE_01 (figMask w h a u) (btwE w h x y 119)
  have n := fun k hk => liNext_f g hf ha hu k hk x y hc
  unfold spec_liMeet.f meetE
  rw [step (k + 4) 0 0 110 _ _ (by omega) (by omega) (by omega) (n _ (by omega)).1, i1, step (k + 3) 1 _ 101 _ _ (by omega) (by omega) (by omega) (n _ (by omega)).2.1, i2, step (k + 2) 2 _ 115 _ _ (by omega) (by omega) (by omega) (n _ (by omega)).2.2.1, i3, step (k + 1) 3 _ 119 _ _ (by omega) (by omega) (by omega) (n _ (by omega)).2.2.2, i4]
  simp only [spec_liMeet.l0]
  rw [if_neg (by omega), Int.zero_add]
def cornL (w h : Int) : List S36 := (List.range (h + 1).toNat).flatMap fun (y : Nat) => (List.range (w + 1).toNat).map fun (x : Nat) => (⟨(x : Int), (y : Int)⟩ : S36)
theorem cornL_in {w h : Int} (g : GridOK w h) : ∀ c ∈ cornL w h, inC w h c.f0 c.f1 := by
  intro c hc
  have w1 := g.w1
  have h1 := g.h1
  unfold cornL at hc
  rw [List.mem_flatMap] at hc
  obtain ⟨y, hy, hc⟩ := hc
  rw [List.mem_map] at hc
  obtain ⟨x, hx, rfl⟩ := hc
  rw [List.mem_range] at hx hy
  exact ⟨⟨Int.natCast_nonneg _, by show (x : Int) ≤ w; omega⟩, Int.natCast_nonneg _, by show (y : Int) ≤ h; omega⟩
theorem grid_cases {w h : Int} (g : GridOK w h) : (w = 1 ∨ w = 2 ∨ w = 3 ∨ w = 4) ∧ (h = 1 ∨ h = 2 ∨ h = 3 ∨ h = 4) := by
  have w1 := g.w1
  have w4 := g.w4
  have h1 := g.h1
  have h4 := g.h4
  constructor <;> omega
theorem cornL_len {w h : Int} (g : GridOK w h) : (cornL w h).length ≤ 25 := by
  obtain ⟨cw, ch⟩ := grid_cases g
  clear g
  rcases cw with rfl | rfl | rfl | rfl <;> rcases ch with rfl | rfl | rfl | rfl <;> decide
theorem corners_f {w h : Int} (g : GridOK w h) (k : Nat) (hk : 60 < k) : impl_grid_corners.f k w h = some (cornL w h) := by
  obtain ⟨cw, ch⟩ := grid_cases g
  clear g
  rcases cw with rfl | rfl | rfl | rfl <;> rcases ch with rfl | rfl | rfl | rfl <;> exact up_rounds (fun k => impl_grid_corners.mono _ _ k) (Nat.le_of_lt hk) (by kernel_rfl)
theorem liAll_any (a u : List Int) (w h : Int) : ∀ k, (∀ xs y, spec_liAll.l0 k xs y w h a u = spec_liAll.l0 k xs y w h [] []) ∧ (∀ xs y x, spec_liAll.l1 k xs y x w h a u = spec_liAll.l1 k xs y x w h [] []) := by
  intro k
  induction k with
  | zero => exact ⟨fun _ _ => rfl, fun _ _ _ => rfl⟩
  | succ k ih =>
    obtain ⟨i0, i1⟩ := ih
    exact ⟨fun xs y => by simp only [spec_liAll.l0, i1], fun xs y x => by simp only [spec_liAll.l1, i0, i1]⟩
theorem liAll_f {w h : Int} (g : GridOK w h) (a u : List Int) (k : Nat) (hk : 60 < k) : spec_liAll.f k w h a u = some (cornL w h) := by
  obtain ⟨cw, ch⟩ := grid_cases g
  clear g
  unfold spec_liAll.f
  rw [(liAll_any a u w h k).1]
  show spec_liAll.f k w h [] [] = _
  rcases cw with rfl | rfl | rfl | rfl <;> rcases ch with rfl | rfl | rfl | rfl <;> exact up_rounds (fun k => spec_liAll.mono _ _ _ _ k) (Nat.le_of_lt hk) (by kernel_rfl)
theorem rd36_nat (l : List S36) (i : Nat) (h : i < l.length) : rd_T36 l (i : Int) = l[i] := by
  unfold rd_T36
  rw [Int.toNat_natCast, List.getD_eq_getElem?_getD, List.getElem?_eq_getElem h]
  rfl
theorem cornersOf_f (q : Int → Bool) {w h : Int} {a u : List Int} (hf : figB w h a u = true) (ha : a.length ≤ 1000000) (hu : u.length ≤ 1000000) (k : Nat) (hk : 2000010 < k) :
    impl_cornersOf.f q k w h a u = some ((cornL w h).filter fun c => q (meetE w h (figMask w h a u) c.f0 c.f1), true) := by
  have g := gridOK_of hf
  unfold impl_cornersOf.f impl_cornersWith.f
  rw [IsFigure_f w h a u ha hu k (by omega), Option.bind_some, hf, if_pos rfl, set_f hf ha hu k hk, Option.bind_some, corners_f g k (by omega), Option.bind_some,
    nsOf_mk (ns := fun c => meetE w h (figMask w h a u) c.f0 c.f1) (fun c => meeting_f g _ (figMask_lt hf) c.f0 c.f1 k (by omega)), Option.bind_some, Option.bind_some]
theorem cornersOf_no (q : Int → Bool) {w h : Int} {a u : List Int} (hf : figB w h a u = false) (ha : a.length ≤ 1000000) (hu : u.length ≤ 1000000) (k : Nat) (hk : 2000010 < k) :
    impl_cornersOf.f q k w h a u = some ([], false) := by
  unfold impl_cornersOf.f
  rw [IsFigure_f w h a u ha hu k (by omega), Option.bind_some, hf, if_neg (by decide)]
theorem spec_liOdd_loop {w h : Int} {a u : List Int} (g : GridOK w h) (hf : figB w h a u = true) (ha : a.length ≤ 1000000) (hu : u.length ≤ 1000000) (cs : List S36) (hcs : ∀ c ∈ cs, inC w h c.f0 c.f1) (hL : cs.length ≤ 100) :
    ∀ (d k i : Nat) (acc : List S36), cs.length - i = d → i ≤ cs.length → acc.length ≤ i → d + 1000020 < k → spec_liOdd.l0 k acc cs (cs.length : Int) (i : Int) w h a u = some ((acc ++ (cs.drop i).filter fun c => (Int.tmod (meetE w h (figMask w h a u) c.f0 c.f1) 2 == 1))) := by
  intro d
  induction d with
  | zero =>
    intro k i acc h1 h3 h5 h4
    obtain ⟨k, rfl⟩ : ∃ m, k = m + 1 := ⟨k - 1, by omega⟩
    simp only [spec_liOdd.l0]
    rw [if_neg (by omega), List.drop_of_length_le (by omega), List.filter_nil, List.append_nil]
  | succ d ih =>
    intro k i acc h1 h3 h5 h4
    obtain ⟨k, rfl⟩ : ∃ m, k = m + 1 := ⟨k - 1, by omega⟩
    have e2 : wrap64 ((i : Int) + 1) = ((i + 1 : Nat) : Int) := by unfold wrap64; omega
    have hi : i < cs.length := by omega
    simp only [spec_liOdd.l0]
    rw [if_pos (by omega), if_pos (by omega), if_pos (by omega), rd36_nat cs i hi, liMeet_f g hf ha hu k (by omega) _ _ (hcs _ (List.getElem_mem hi)), Option.bind_some, e2, List.drop_eq_getElem_cons hi, List.filter_cons]
    by_cases hn : Int.tmod (meetE w h (figMask w h a u) cs[i].f0 cs[i].f1) 2 = 1
    · rw [if_pos hn, if_pos (by omega), ih k (i + 1) _ (by omega) (by omega) (by rw [List.length_append]; simp; omega) (by omega), if_pos (by simpa using hn), List.append_assoc]
      rfl
    · rw [if_neg hn, ih k (i + 1) _ (by omega) (by omega) (by omega) (by omega), if_neg (by simpa using hn)]
theorem OddCorners_yes {w h : Int} {a u : List Int} (ha : a.length ≤ 1000000) (hu : u.length ≤ 1000000) (k : Nat) (hk : 4000000 < k) :
    ∃ R1 R2, spec_OddCorners.f k w h a u = some (R1, R2) ∧ impl_OddCorners.f k w h a u = some (R1, R2) ∧ R1.length ≤ 25 := by
  cases hf : figB w h a u with
  | false =>
    refine ⟨[], false, ?_, cornersOf_no _ hf ha hu k (by omega), by simp⟩
    unfold spec_OddCorners.f
    rw [fiGood_f w h a u ha hu k (by omega), Option.bind_some, hf, if_neg (by decide)]
  | true =>
    have g := gridOK_of hf
    have gl := cornL_len g
    refine ⟨_, true, ?_, cornersOf_f _ hf ha hu k (by omega), Nat.le_trans (List.length_filter_le _ _) gl⟩
    unfold spec_OddCorners.f spec_liOdd.f
    rw [fiGood_f w h a u ha hu k (by omega), Option.bind_some, hf, if_pos rfl, liAll_f g a u k (by omega), Option.bind_some]
    have := spec_liOdd_loop g hf ha hu _ (cornL_in g) (by omega) (cornL w h).length k 0 [] (by omega) (by omega) (by simp) (by omega)
    rw [show spec_liOdd.l0 k ([] : List S36) (cornL w h) ((cornL w h).length : Int) 0 w h a u = _ from this]
    rfl

end Go.Proofs.Ytjhndaehdbjgkaa.P


namespace Go.Proofs.Ytjhndaehdbjgkaa.fnExactOddCorners
open Go.ChangeShapes Go.WideShapes Go.ChangeAt Go.RowKit Go.Proofs.YtjhndaehdbjgkaaW.PrintWords Go.Joins
set_option linter.unusedVariables false
theorem own : ownKnob Try.prog.godebug = none := Closed.own
theorem laidOut : laidOutB Try.prog = true := Closed.laidOut
def IsRow (k : IntKind) (w : World) (a : Option Addr) (len cap : Nat) (zs : List Int) : Prop :=
  (a = none ∧ len = 0 ∧ cap = 0 ∧ zs = []) ∨
  ∃ x, a = some x ∧ len ≤ cap ∧ cap ≤ maxLen ∧ zs.length = cap ∧ (∀ i, i < zs.length → w.cell? (x.add i) = some (.int k (zs.getD i 0))) ∧ ∀ n ∈ zs, (Lit.int k n).wf = true
theorem opened {H : Type} {enc : TypeId × Value → H} {W : World} {m : Nat} {c : Value} {y : DataW H × List MemPlace} (hy : DataW.trod enc Try.prog W 0 (fun _ => true) true m 22 [c] = some y) :
    ∃ a len cap zs, c = .slice a len cap ∧ IsRow .i64 W a len cap zs := by
  rcases open_ints Try.underlying22 Try.underlying3 (by kernel_rfl) hy with ⟨hcs, _⟩ | ⟨x, l, c, zs, hcs, _, hl, hm, hz, _, hcell, hwz⟩
  · simp at hcs
    exact ⟨none, 0, 0, [], hcs, .inl ⟨rfl, rfl, rfl, rfl⟩⟩
  · simp at hcs
    exact ⟨some x, l, c, zs, hcs, .inr ⟨_, rfl, hl, hm, by simpa using hz, hcell, hwz⟩⟩
theorem walk (a b : Int) (A2 : Option Addr) (n2 c2 : Nat) (z2 : List Int) (A3 : Option Addr) (n3 c3 : Nat) (z3 : List Int) (w : World) (w2 : IsRow .i64 w A2 n2 c2 z2) (w3 : IsRow .i64 w A3 n3 c3 z3) (y2 : n2 * 8 ≤ 140737488351232) (y3 : n3 * 8 ≤ 140737488351232) :
    Calls Try.prog 11 #[.agg #[.int .i64 a, .int .i64 b, .slice A2 n2 c2, .slice A3 n3 c3]] w fun e w' => e = .returned (.bool true) ∧ Below w.heap.size w w' := by
  obtain ⟨l2, rfl, hr2, hm2, hw2, hc2⟩ := ReadsInt.ofRowC w2
  obtain ⟨l3, rfl, hr3, hm3, hw3, hc3⟩ := ReadsInt.ofRowC w3
  have k2 := Kd.C_of_reads (d := (0 : Int)) (h1 := fun _ => rfl) hr2
  have k3 := Kd.C_of_reads (d := (0 : Int)) (h1 := fun _ => rfl) hr3
  by_cases hbig : l2.length + l3.length ≤ 1000000
  · obtain ⟨R1, R2, hs, hi, hR⟩ := P.OddCorners_yes (w := a) (h := b) (a := l2) (u := l3) (Nat.le_trans (Nat.le_add_right _ _) hbig) (Nat.le_trans (Nat.le_add_left _ _) hbig) 4000001 (Nat.lt_succ_self _)
    exact P.law_OddCorners_yes a b A2 c2 l2 A3 c3 l3 4000001 R1 R2 w k2 hc2 k3 hc3 hbig (Nat.le_trans hR (by decide)) (Nat.lt_succ_self _) hs hi
  · exact P.law_OddCorners_no a b A2 c2 l2 A3 c3 l3 w k2 hc2 k3 hc3 (by clear hbig; omega) (by clear hbig; omega) hbig
theorem joined_mk (P : Program) (f : FuncId) (fn : Func) (s : ChangeSpec) (c : OpenClaim) (k0 : (c.wf (OpenSpec.ofChange s)) = true) (k1 : (laidOutB P) = true) (k2 : (mapsRowed P) = true) (k3 : (fn.params.all (P.readableRec ·)) = true) (k4 : (namedTie P c.named s.vars) = true) (k5 : ((c.stops == [])) = true) (k6 : ((P.stops == [])) = true) (k7 : ((c.knobs == [])) = true) (k8 : ((P.stopKnobs == [])) = true) (k9 : ((c.inPlace == P.inPlace f)) = true) (k10 : ((c.unfollowed == P.unfollowed f)) = true) (k11 : ((c.recurses == P.recurses f)) = true) (k12 : ((c.named == P.varsNamed f)) = true) (k13 : ((c.maps == (fn.params.toList ++ s.plain.varTypes P).any (P.mapsRec ·))) = true) (k14 : ((c.ifaces == (fn.params.toList ++ s.plain.varTypes P).any (P.ifacesRec ·))) = true) (k15 : ((c.mapsOut == P.mapsAmong fn.resultTypes.toList)) = true) (k16 : ((c.loops == (fn.params.toList ++ s.plain.varTypes P).any (P.loopsFrom ·))) = true) (k17 : ((c.wideKeys == (fn.params.toList ++ s.plain.varTypes P ++ fn.resultTypes.toList).any (P.wideKeysFrom ·))) = true) (k18 : (s.vars.all (P.varReadable ·)) = true) (k19 : (fn.resultTypes.all (fun t => P.readableRec t && decide (t < P.types.size))) = true) (k20 : ((c.ifacesOut == fn.resultTypes.toList.any (P.ifacesRec ·))) = true) (k21 : ((c.loopsOut == fn.resultTypes.toList.any (P.loopsFrom ·))) = true) (k22 : ((c.plainKeys == P.plainKeys)) = true) (k23 : (c.shortTexts.isNone) = true) (k24 : (P.stopsHeard) = true) (k25 : (P.mayEnter) = true) (k26 : ((c.lifted == P.liftsFinal)) = true) (k27 : ((P.make == some c.make)) = true) (hd : c.domain.isEmpty = true) (k28 : (c.kinds == []) = true) (k29 : ((c.pinned == c.pinnedBy)) = true) (k30 : ((c.veiled == (fn.params.toList ++ s.plain.varTypes P ++ fn.resultTypes.toList).any (P.veiledRec ·))) = true) (k31 : (c.veiledFits P fn.params.toList (fn.params.toList ++ s.plain.varTypes P ++ fn.resultTypes.toList)) = true) : joinedFacts P f fn s c = true := by
  unfold joinedFacts
  simp only [hd, if_true, k0, k1, k2, k3, k4, k5, k6, k7, k8, k9, k10, k11, k12, k13, k14, k15, k16, k17, k18, k19, k20, k21, k22, k23, k24, k25, k26, k27, k28, k29, k30, k31, Bool.and_self]
set_option maxRecDepth 100000 in
theorem lifted (os : Os) (started : os.Started) (H : Type) (enc : TypeId × Value → H) :
    ReturnsInHanded {} Try.checked os 11 .any (Rows.fnExactOddCornersSpec.pre6 enc Try.prog Try.f11 Rows.fnExactOddCornersRow.domain false) (Rows.fnExactOddCornersSpec.post enc Try.prog Try.f11 false true false false) := by
  refine returnsInHanded_of_change_sized (C := Try.checked) own started (by kernel_rfl) Try.func11
    (ChangeSpec.witness6 (enc := enc) (C := Try.checked) false ⟨#[], #[.agg #[.int .i64 0, .int .i64 0, .slice none 0 0, .slice none 0 0]], []⟩ 8 (by kernel_rfl) (by kernel_rfl) (by kernel_rfl) (by kernel_rfl)) ?_
  intro W base args ds gs before hval0 hW hcnd hsz0 _
  have hsz : (DataW.weightsEach Try.prog (Try.f11.params.toList ++ Rows.fnExactOddCornersSpec.plain.varTypes Try.prog) (ds ++ gs)).all (· ≤ reachBytes) = true := hsz0
  have hval : ∀ (j : Nat) t v, Try.f11.params[j]? = some t → args[j]? = some v → Value.okWide Try.prog W .any base t v := hval0
  have hW' := hW
  obtain ⟨p, q, hA0, hV, rfl, hfz, hnd⟩ := hW
  have hA : DataW.TrodAll enc Try.prog W 0 (fun _ => true) true Try.f11.params.toList args.toList ds p := hA0
  rw [Try.params11] at hA hval hsz
  obtain ⟨v0, vs0, d0, ds0, p0, q0, hargs, rfl, rfl, h0, r0⟩ := trodAll_cons hA
  obtain ⟨rfl, rfl, rfl⟩ := trodAll_nil r0
  obtain rfl : args = #[v0] := by cases args; simp_all
  obtain ⟨rfl, rfl⟩ := trodVars_none hV
  have k0 := h0
  have lt0 : ∀ x ∈ p0, x.block < W.heap.size := by obtain ⟨m, hm⟩ := k0; exact DataW.trod_lt m _ _ _ hm
  obtain ⟨c0, c1, c2, c3, y0, y1, y2, y3, m, rfl, rfl, rfl, hy0, hy1, hy2, hy3⟩ := open_agg4 Try.underlying24 (by kernel_rfl) (by kernel_rfl) (hval 0 24 v0 rfl rfl) h0
  have hsz2 : (DataW.weightsEach Try.prog [3, 3, 22, 22] [y0.1, y1.1, y2.1, y3.1]).all (· ≤ reachBytes) = true := by
    rw [List.all_eq_true]
    intro n hn
    exact List.all_eq_true.1 hsz n (DataW.weights_mem_each (j := 0) (t := 24) (d := .agg [y0.1, y1.1, y2.1, y3.1]) rfl rfl n (by simp only [DataW.weights, Try.underlying24]; exact hn))
  obtain ⟨a, e0, -, wa⟩ := DataW.trod_int Try.underlying3 hy0
  obtain ⟨b, e1, -, wb⟩ := DataW.trod_int Try.underlying3 hy1
  obtain ⟨a2, len2, cap2, z2, rfl, w2⟩ := opened hy2
  obtain ⟨a3, len3, cap3, z3, rfl, w3⟩ := opened hy3
  have z2_ : len2 * 8 ≤ 140737488351232 := sized_ints hsz2 (j := 2) (t := 22) rfl rfl Try.underlying22 Try.underlying3 (by kernel_rfl) (by kernel_rfl) (⟨m, by simpa [Value.cells] using hy2⟩ : DataW.Trod enc Try.prog W 0 (fun _ => true) true 22 (.slice a2 len2 cap2) y2.1 y2.2)
  have z3_ : len3 * 8 ≤ 140737488351232 := sized_ints hsz2 (j := 3) (t := 22) rfl rfl Try.underlying22 Try.underlying3 (by kernel_rfl) (by kernel_rfl) (⟨m, by simpa [Value.cells] using hy3⟩ : DataW.Trod enc Try.prog W 0 (fun _ => true) true 22 (.slice a3 len3 cap3) y3.1 y3.2)
  obtain rfl : c0 = .int .i64 a := by simpa using e0
  obtain rfl : c1 = .int .i64 b := by simpa using e1
  clear hA0 hval0 hsz0 hsz hsz2
  refine (walk a b a2 len2 cap2 z2 a3 len3 cap3 z3 W w2 w3 z2_ z3_).mono fun e W' ⟨he, bel⟩ => ?_
  subst he
  exact ⟨_, rfl, _, _, _, [], _, [], hW', trodAll_mk1 (shut_bool Try.underlying4 _), (trodAll_cons_mk (Below.trod laidOut (by kernel_rfl) (of_decide_eq_true (by kernel_rfl)) k0 bel lt0) trodAll_mk0), rfl, bel.frame _, fun h => by cases h⟩
theorem k0_ : (Rows.fnExactOddCornersRow.wf (OpenSpec.ofChange Rows.fnExactOddCornersSpec)) = true := by kernel_rfl
theorem k1_ : (laidOutB Try.prog) = true := Closed.laidOut
theorem k2_ : (mapsRowed Try.prog) = true := Closed.mapsRowedP
theorem k3_ : (Try.f11.params.all (Try.prog.readableRec ·)) = true := by kernel_rfl
theorem k4_ : (namedTie Try.prog Rows.fnExactOddCornersRow.named Rows.fnExactOddCornersSpec.vars) = true := by kernel_rfl
theorem k5_ : ((Rows.fnExactOddCornersRow.stops == [])) = true := by kernel_rfl
theorem k6_ : ((Try.prog.stops == [])) = true := Closed.noStops
theorem k7_ : ((Rows.fnExactOddCornersRow.knobs == [])) = true := by kernel_rfl
theorem k8_ : ((Try.prog.stopKnobs == [])) = true := Closed.noKnobs
theorem k9_ : ((Rows.fnExactOddCornersRow.inPlace == Try.prog.inPlace 11)) = true := by kernel_rfl
theorem k10_ : ((Rows.fnExactOddCornersRow.unfollowed == Try.prog.unfollowed 11)) = true := by kernel_rfl
theorem k11_ : ((Rows.fnExactOddCornersRow.recurses == Try.prog.recurses 11)) = true := by kernel_rfl
theorem k12_ : ((Rows.fnExactOddCornersRow.named == Try.prog.varsNamed 11)) = true := by kernel_rfl
theorem k13_ : ((Rows.fnExactOddCornersRow.maps == (Try.f11.params.toList ++ Rows.fnExactOddCornersSpec.plain.varTypes Try.prog).any (Try.prog.mapsRec ·))) = true := by kernel_rfl
theorem k14_ : ((Rows.fnExactOddCornersRow.ifaces == (Try.f11.params.toList ++ Rows.fnExactOddCornersSpec.plain.varTypes Try.prog).any (Try.prog.ifacesRec ·))) = true := by kernel_rfl
theorem k15_ : ((Rows.fnExactOddCornersRow.mapsOut == Try.prog.mapsAmong Try.f11.resultTypes.toList)) = true := by kernel_rfl
theorem k16_ : ((Rows.fnExactOddCornersRow.loops == (Try.f11.params.toList ++ Rows.fnExactOddCornersSpec.plain.varTypes Try.prog).any (Try.prog.loopsFrom ·))) = true := by kernel_rfl
theorem k17_ : ((Rows.fnExactOddCornersRow.wideKeys == (Try.f11.params.toList ++ Rows.fnExactOddCornersSpec.plain.varTypes Try.prog ++ Try.f11.resultTypes.toList).any (Try.prog.wideKeysFrom ·))) = true := by kernel_rfl
theorem k18_ : (Rows.fnExactOddCornersSpec.vars.all (Try.prog.varReadable ·)) = true := by kernel_rfl
theorem k19_ : (Try.f11.resultTypes.all (fun t => Try.prog.readableRec t && decide (t < Try.prog.types.size))) = true := by kernel_rfl
theorem k20_ : ((Rows.fnExactOddCornersRow.ifacesOut == Try.f11.resultTypes.toList.any (Try.prog.ifacesRec ·))) = true := by kernel_rfl
theorem k21_ : ((Rows.fnExactOddCornersRow.loopsOut == Try.f11.resultTypes.toList.any (Try.prog.loopsFrom ·))) = true := by kernel_rfl
theorem k22_ : ((Rows.fnExactOddCornersRow.plainKeys == Try.prog.plainKeys)) = true := by kernel_rfl
theorem k23_ : (Rows.fnExactOddCornersRow.shortTexts.isNone) = true := by kernel_rfl
theorem k24_ : (Try.prog.stopsHeard) = true := Closed.stopsHeard
theorem k25_ : (Try.prog.mayEnter) = true := Closed.mayEnter
theorem k26_ : ((Rows.fnExactOddCornersRow.lifted == Try.prog.liftsFinal)) = true := by rw [Closed.liftsFinal]; kernel_rfl
theorem k27_ : ((Try.prog.make == some Rows.fnExactOddCornersRow.make)) = true := by rw [Closed.make]; kernel_rfl
theorem k28_ : ((Rows.fnExactOddCornersRow.kinds == [])) = true := by kernel_rfl
theorem k29_ : ((Rows.fnExactOddCornersRow.pinned == Rows.fnExactOddCornersRow.pinnedBy)) = true := by kernel_rfl
theorem k30_ : ((Rows.fnExactOddCornersRow.veiled == (Try.f11.params.toList ++ Rows.fnExactOddCornersSpec.plain.varTypes Try.prog ++ Try.f11.resultTypes.toList).any (Try.prog.veiledRec ·))) = true := by kernel_rfl
theorem k31_ : (Rows.fnExactOddCornersRow.veiledFits Try.prog Try.f11.params.toList (Try.f11.params.toList ++ Rows.fnExactOddCornersSpec.plain.varTypes Try.prog ++ Try.f11.resultTypes.toList)) = true := by kernel_rfl
theorem k99_ : (Rows.fnExactOddCornersRow.domain.isEmpty) = true := by kernel_rfl
theorem closed : joinedFacts Try.prog 11 Try.f11 Rows.fnExactOddCornersSpec Rows.fnExactOddCornersRow = true :=
  joined_mk _ _ _ _ _ k0_ k1_ k2_ k3_ k4_ k5_ k6_ k7_ k8_ k9_ k10_ k11_ k12_ k13_ k14_ k15_ k16_ k17_ k18_ k19_ k20_ k21_ k22_ k23_ k24_ k25_ k26_ k27_ k99_ k28_ k29_ k30_ k31_
theorem over : Rows.fnExactOddCornersRow.holds Try.pinned (OpenSpec.ofChange Rows.fnExactOddCornersSpec) :=
  OpenClaim.holds_of_wide 11 Try.f11 rfl rfl rfl rfl rfl rfl rfl ⟨rfl, rfl, rfl, rfl, rfl⟩ rfl rfl rfl rfl rfl (by kernel_rfl) Try.func11 closed
    (of_decide_eq_true (by kernel_rfl)) (by unfold Func.isWrapper; first | (rw [if_pos (by decide +kernel)]; kernel_rfl) | (rw [if_neg (by decide +kernel)]; exact ⟨rfl, rfl⟩))
    (fun os started H enc _ => lifted os started H enc)
theorem proved : Rows.FnExactOddCornersSaid := over
end Go.Proofs.Ytjhndaehdbjgkaa.fnExactOddCorners
namespace Go.Proofs.Ytjhndaehdbjgkaa
theorem fnExactOddCorners_holds : Rows.FnExactOddCornersSaid := fnExactOddCorners.proved
end Go.Proofs.Ytjhndaehdbjgkaa

