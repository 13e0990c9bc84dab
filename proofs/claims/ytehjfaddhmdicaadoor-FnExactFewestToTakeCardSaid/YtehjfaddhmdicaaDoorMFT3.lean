/- For every input the law FnExactFewestToTake answers true: the program's FewestToTake tells what the reference's FewestToTake tells; no condition. (part 3 of the proof; the words of the kit's print tool and the texts of this seat, merged by a program) -/
import Derived.Below
import Derived.ChangeOld
import Derived.FnData
import Derived.Handed
import Derived.JoinedOf
import Derived.LaidHandle
import Derived.LaidLaws
import Derived.Lib.SmallJoins
import Derived.OpenShut
import Derived.ProofKit
import Derived.SevenTiedAt
import Derived.SizedLaws
import Derived.Test.YtehjfaddhmdicaaDoorCards
import Derived.Test.YtehjfaddhmdicaaDoorClosed
import Derived.Test.YtehjfaddhmdicaaDoorRows
import Derived.Test.YtehjfaddhmdicaaDoorTie
import Derived.WalkKit
import Derived.Test.YtehjfaddhmdicaaDoorMFT2
namespace Go.Proofs.YtehjfaddhmdicaaDoor.P
open Go.RowKit Go.Proofs.YtehjfaddhmdicaaDoorW.PrintWords Go.Proofs.YtehjfaddhmdicaaDoorW.PrintLast Go.Proofs.YtehjfaddhmdicaaDoorW.PrintMore
attribute [local go_sem] max2_int min2_int max_two min_two max_three min_three max_four min_four   -- for this text's walks alone
set_option linter.unusedVariables false
set_option linter.unusedSimpArgs false

mutual
def spec_sqHit.l0 : Nat → List (S122) → Int → Int → List (S122) → Int → Int → Option (Bool)
 | 0, _, _, _, _, _, _ => none
 | k + 1, x0, x1, x2, x10, x11, x12 => if x12 < x11 then (if 0 ≤ x12 then (if x12 < (x10.length : Int) then (if (Go.bits .and .i64 x1 ((rd_T122 x10 x12).f3)) = ((rd_T122 x10 x12).f3) then (if x2 = 0 then (some false) else (spec_sqHit.l1 k x0 x1 x2 ((rd_T122 x10 x12).f3))) else (spec_sqHit.l0 k x0 x1 x2 x10 x11 (wrap64 (x12 + 1)))) else (none)) else (none)) else (some true)
def spec_sqHit.l1 : Nat → List (S122) → Int → Int → Int → Option (Bool)
 | 0, _, _, _, _ => none
 | k + 1, x0, x1, x2, x9 => if x9 = 0 then (some false) else ((spec_sqHit.f k x0 (Go.bits .andNot .i64 x1 (Go.bits .and .i64 x9 (wrap64 (-x9)))) (wrap64 (x2 - 1))).bind fun t148 => (if t148 = true then (some true) else (spec_sqHit.l1 k x0 x1 x2 (Go.bits .and .i64 x9 (wrap64 (x9 - 1))))))
def spec_sqHit.f : Nat → List (S122) → Int → Int → Option (Bool)
 | 0, _, _, _ => none
 | k + 1, l0, a1, a2 => spec_sqHit.l0 k l0 a1 a2 l0 (l0.length : Int) 0
end
theorem spec_sqHit.mono_l : ∀ k, (∀ y0 y1 y2, LeO (spec_sqHit.f k y0 y1 y2) (spec_sqHit.f (k + 1) y0 y1 y2)) ∧ (∀ y0 y1 y2 y3 y4 y5, LeO (spec_sqHit.l0 k y0 y1 y2 y3 y4 y5) (spec_sqHit.l0 (k + 1) y0 y1 y2 y3 y4 y5)) ∧ (∀ y0 y1 y2 y3, LeO (spec_sqHit.l1 k y0 y1 y2 y3) (spec_sqHit.l1 (k + 1) y0 y1 y2 y3))
 | 0 => ⟨fun _ _ _ r h => by simp [spec_sqHit.f] at h, fun _ _ _ _ _ _ r h => by simp [spec_sqHit.l0] at h, fun _ _ _ _ r h => by simp [spec_sqHit.l1] at h⟩
 | k + 1 => by
  obtain ⟨ih0, ih1, ih2⟩ := spec_sqHit.mono_l k
  refine ⟨?_, ?_, ?_⟩
  ·intro y0 y1 y2
   unfold spec_sqHit.f
   repeat' first
   | (with_reducible exact ih0 _ _ _)
   | (with_reducible exact ih1 _ _ _ _ _ _)
   | (with_reducible exact ih2 _ _ _ _)
   | (with_reducible exact LeO.refl _)
   | (with_reducible exact LeO.none _)
   | (with_reducible refine LeO.ite ?_ ?_)
   | (with_reducible refine LeO.bind ?_ (fun _ => ?_))
   | exact ih0 _ _ _
   | exact ih1 _ _ _ _ _ _
   | exact ih2 _ _ _ _
   | exact LeO.none _
   | refine LeO.ite ?_ ?_
   | refine LeO.bind ?_ (fun _ => ?_)
  ·intro y0 y1 y2 y3 y4 y5
   unfold spec_sqHit.l0
   repeat' first
   | (with_reducible exact ih0 _ _ _)
   | (with_reducible exact ih1 _ _ _ _ _ _)
   | (with_reducible exact ih2 _ _ _ _)
   | (with_reducible exact LeO.refl _)
   | (with_reducible exact LeO.none _)
   | (with_reducible refine LeO.ite ?_ ?_)
   | (with_reducible refine LeO.bind ?_ (fun _ => ?_))
   | exact ih0 _ _ _
   | exact ih1 _ _ _ _ _ _
   | exact ih2 _ _ _ _
   | exact LeO.none _
   | refine LeO.ite ?_ ?_
   | refine LeO.bind ?_ (fun _ => ?_)
  ·intro y0 y1 y2 y3
   unfold spec_sqHit.l1
   repeat' first
   | (with_reducible exact ih0 _ _ _)
   | (with_reducible exact ih1 _ _ _ _ _ _)
   | (with_reducible exact ih2 _ _ _ _)
   | (with_reducible exact LeO.refl _)
   | (with_reducible exact LeO.none _)
   | (with_reducible refine LeO.ite ?_ ?_)
   | (with_reducible refine LeO.bind ?_ (fun _ => ?_))
   | exact ih0 _ _ _
   | exact ih1 _ _ _ _ _ _
   | exact ih2 _ _ _ _
   | exact LeO.none _
   | refine LeO.ite ?_ ?_
   | refine LeO.bind ?_ (fun _ => ?_)
theorem spec_sqHit.mono : ∀ a0 a1 a2 k, LeO (spec_sqHit.f k a0 a1 a2) (spec_sqHit.f (k + 1) a0 a1 a2) := by
 intro a0 a1 a2 k
 obtain ⟨ih0, ih1, ih2⟩ := spec_sqHit.mono_l k
 exact ih0 a0 a1 a2
set_option maxHeartbeats 8000000 in
set_option maxRecDepth 100000 in
theorem spec_sqHit.calls (k : Nat) : ∀ (A0 : Option Addr) (c0 : Nat) (l0 : List (S122)) (a1 : Int) (a2 : Int) (r : Bool) (w : World) (hr0 : Kd.C k122 w A0 l0.length l0) (hc0 : l0.length ≤ c0) (h : spec_sqHit.f k l0 a1 a2 = some r),
  Calls Tryd.prog 95 #[.slice A0 l0.length c0, .int .i64 a1, .int .i64 a2] w fun e w' => e = .returned (.bool r) ∧ Below w.heap.size w w' := by
 induction k using Nat.strongRecOn with
 | _ k ih =>
 intro A0 c0 l0 a1 a2 r w hr0 hc0 h
 cases k with
 | zero => exact absurd h (by simp [spec_sqHit.f])
 | succ k =>
 simp only [spec_sqHit.f] at h
 have hu122 := Tryd.underlying122
 have HR0 := Aside0.mk hr0
 have HC0 := Aside0.mk hc0
 clear hr0 hc0
 have HB := Aside0.mk (Below.refl w.heap.size w)
 have H : (spec_sqHit.l0 k l0 a1 a2 l0 (l0.length : Int) 0) = some r := h
 clear h
 have H' := Aside0.mk H
 clear H
 go_enter Tryd.func95, Tryd.ntmps95
 go_wp2
 go_loopg [12] k (fun kq v12 w' => ∃ (x12_1 : Int), v12 = .int .i64 x12_1 ∧ Aside0 (spec_sqHit.l0 kq l0 a1 a2 l0 (l0.length : Int) x12_1 = some r) ∧ Aside0 (kq ≤ k) ∧ Aside0 (Below w.heap.size w w'))
 case atStart => exact ⟨(0), rs_, H', ⟨Nat.le_refl _⟩, ⟨bl0_ HB.out⟩⟩
 case round =>
  clear H'
  try clear p2
  obtain ⟨x12_1, rfl, HA, HK1, HB⟩ := hrel
  cases gk with
  | zero => exact absurd HA.out (by simp [spec_sqHit.l0])
  | succ k1 =>
   have H := HA.out
   clear HA
   simp only [spec_sqHit.l0] at H
   by_cases c4 : x12_1 < (l0.length : Int)
   ·rw [if_pos c4] at H
    have c4b0 : decide (x12_1 < (l0.length : Int)) = true := decide_eq_true c4
    clear c4
    by_cases c5 : 0 ≤ x12_1
    ·rw [if_pos c5] at H
     have c5b0 : decide (0 ≤ x12_1) = true := decide_eq_true c5
     clear c5
     by_cases c6 : x12_1 < (l0.length : Int)
     ·rw [if_pos c6] at H
      have c6b0 : decide (x12_1 < (l0.length : Int)) = true := decide_eq_true c6
      clear c6
      by_cases c7 : (Go.bits .and .i64 a1 ((rd_T122 l0 x12_1).f3)) = ((rd_T122 l0 x12_1).f3)
      ·rw [if_pos c7] at H
       have c7b0 : ((Go.bits .and .i64 a1 ((rd_T122 l0 x12_1).f3)) == ((rd_T122 l0 x12_1).f3)) = true := beq_iff_eq.mpr c7
       have c7b1 : ((Go.bits .and .i64 a1 ((rd_T122 l0 x12_1).f3)) != ((rd_T122 l0 x12_1).f3)) = false := bne_eq_false_iff_eq.mpr c7
       clear c7
       by_cases c8 : a2 = 0
       ·rw [if_pos c8] at H
        have c8b0 : (a2 == 0) = true := beq_iff_eq.mpr c8
        have c8b1 : (a2 != 0) = false := bne_eq_false_iff_eq.mpr c8
        clear c8
        obtain rfl := Option.some.inj H
        have p146 : 0 ≤ (x12_1 : Int) := of_decide_eq_true as_
        have q146 : x12_1 < (l0.length : Int) := of_decide_eq_true as_
        obtain ⟨ad146, e146, hx146_0, hx146_1, hx146_2, hx146_3⟩ := at_T122 HR0.out x12_1 p146 q146
        cases e146
        replace hx146_0 := (HB.out.cell (World.block_lt_of_cell? w _ hx146_0)).trans hx146_0
        replace hx146_1 := (HB.out.cell (World.block_lt_of_cell? w _ hx146_1)).trans hx146_1
        replace hx146_2 := (HB.out.cell (World.block_lt_of_cell? w _ hx146_2)).trans hx146_2
        replace hx146_3 := (HB.out.cell (World.block_lt_of_cell? w _ hx146_3)).trans hx146_3
        replace p146 := eq_true p146
        replace q146 := eq_true q146
        go_wp2_with (first | ((with_reducible refine gate_dst (N := 8) rfl ?_); refine boxE_ (N := 8) (cs := #[.int .i64 0, .int .i64 0, .int .i64 0, .int .i64 0]) (t := 122) ?_; intro gb147 hg w9 hbox hb; have n0_ := Aside0.mk (below_step (bl0_ HB.out) hb); have n1_ := Aside0.mk (hbox); have n2_ := Aside0.mk ((bs0_ hg HB.out : w.heap.size ≤ gb147)); have n3_ := Aside0.mk ((bs0_ hg HB.out : w.heap.size ≤ gb147)); clear HB; have HB := n0_; have BK147 := n1_; have GW147 := n2_; have GE147 := n3_; clear n0_ n1_ n2_ n3_; clear hb hbox hg; have hcz10_0 : w9.cell? ⟨gb147, 0, none⟩ = some (.int .i64 0) := (blk_cell BK147.out 0).trans rfl; have hcz10_1 : w9.cell? ⟨gb147, 1, none⟩ = some (.int .i64 0) := (blk_cell BK147.out 1).trans rfl; have hcz10_2 : w9.cell? ⟨gb147, 2, none⟩ = some (.int .i64 0) := (blk_cell BK147.out 2).trans rfl; have hcz10_3 : w9.cell? ⟨gb147, 3, none⟩ = some (.int .i64 0) := (blk_cell BK147.out 3).trans rfl; have hfz10_0 := blk_frozen BK147.out 0; have hfz10_1 := blk_frozen BK147.out 1; have hfz10_2 := blk_frozen BK147.out 2; have hfz10_3 := blk_frozen BK147.out 3))
        go_ret
        exact ⟨er_, bl1_ HB.out GE147.out⟩
       ·rw [if_neg c8] at H
        have c8b0 : (a2 == 0) = false := beq_eq_false_iff_ne.mpr c8
        have c8b1 : (a2 != 0) = true := bne_iff_ne.mpr c8
        have H' := Aside0.mk H
        clear H
        have p146 : 0 ≤ (x12_1 : Int) := of_decide_eq_true as_
        have q146 : x12_1 < (l0.length : Int) := of_decide_eq_true as_
        obtain ⟨ad146, e146, hx146_0, hx146_1, hx146_2, hx146_3⟩ := at_T122 HR0.out x12_1 p146 q146
        cases e146
        replace hx146_0 := (HB.out.cell (World.block_lt_of_cell? w _ hx146_0)).trans hx146_0
        replace hx146_1 := (HB.out.cell (World.block_lt_of_cell? w _ hx146_1)).trans hx146_1
        replace hx146_2 := (HB.out.cell (World.block_lt_of_cell? w _ hx146_2)).trans hx146_2
        replace hx146_3 := (HB.out.cell (World.block_lt_of_cell? w _ hx146_3)).trans hx146_3
        replace p146 := eq_true p146
        replace q146 := eq_true q146
        go_wp2_with (first | ((with_reducible refine gate_dst (N := 8) rfl ?_); refine boxE_ (N := 8) (cs := #[.int .i64 0, .int .i64 0, .int .i64 0, .int .i64 0]) (t := 122) ?_; intro gb147 hg w11 hbox hb; have n0_ := Aside0.mk (below_step (bl0_ HB.out) hb); have n1_ := Aside0.mk (hbox); have n2_ := Aside0.mk ((bs0_ hg HB.out : w.heap.size ≤ gb147)); have n3_ := Aside0.mk ((bs0_ hg HB.out : w.heap.size ≤ gb147)); clear HB; have HB := n0_; have BK147 := n1_; have GW147 := n2_; have GE147 := n3_; clear n0_ n1_ n2_ n3_; clear hb hbox hg; have hcz12_0 : w11.cell? ⟨gb147, 0, none⟩ = some (.int .i64 0) := (blk_cell BK147.out 0).trans rfl; have hcz12_1 : w11.cell? ⟨gb147, 1, none⟩ = some (.int .i64 0) := (blk_cell BK147.out 1).trans rfl; have hcz12_2 : w11.cell? ⟨gb147, 2, none⟩ = some (.int .i64 0) := (blk_cell BK147.out 2).trans rfl; have hcz12_3 : w11.cell? ⟨gb147, 3, none⟩ = some (.int .i64 0) := (blk_cell BK147.out 3).trans rfl; have hfz12_0 := blk_frozen BK147.out 0; have hfz12_1 := blk_frozen BK147.out 1; have hfz12_2 := blk_frozen BK147.out 2; have hfz12_3 := blk_frozen BK147.out 3))
        go_loopg [9] k1 (fun kq v9 w' => ∃ (x9_2 : Int), v9 = .int .i64 x9_2 ∧ Aside0 (spec_sqHit.l1 kq l0 a1 a2 x9_2 = some r) ∧ Aside0 (kq ≤ k1) ∧ Aside0 (w'.heap[gb147]? = some (.cells #[.int .i64 ((rd_T122 l0 x12_1).f0), .int .i64 ((rd_T122 l0 x12_1).f1), .int .i64 ((rd_T122 l0 x12_1).f2), .int .i64 ((rd_T122 l0 x12_1).f3)] 122 (0, 0))) ∧ Aside0 (Below w.heap.size w w'))
        case atStart => exact ⟨((rd_T122 l0 x12_1).f3), rs_, H', ⟨Nat.le_refl _⟩, ⟨by (with_reducible repeat (first | refine blk_drewN ?_ _ | refine blk_drew ?_ | refine blk_alloc ?_ _)); refine blk_put (cs := #[.int .i64 ((rd_T122 l0 x12_1).f0), .int .i64 ((rd_T122 l0 x12_1).f1), .int .i64 ((rd_T122 l0 x12_1).f2), .int .i64 0]) ?_ 3 _ rfl; (with_reducible repeat (first | refine blk_drewN ?_ _ | refine blk_drew ?_ | refine blk_alloc ?_ _)); refine blk_put (cs := #[.int .i64 ((rd_T122 l0 x12_1).f0), .int .i64 ((rd_T122 l0 x12_1).f1), .int .i64 0, .int .i64 0]) ?_ 2 _ rfl; (with_reducible repeat (first | refine blk_drewN ?_ _ | refine blk_drew ?_ | refine blk_alloc ?_ _)); refine blk_put (cs := #[.int .i64 ((rd_T122 l0 x12_1).f0), .int .i64 0, .int .i64 0, .int .i64 0]) ?_ 1 _ rfl; (with_reducible repeat (first | refine blk_drewN ?_ _ | refine blk_drew ?_ | refine blk_alloc ?_ _)); refine blk_put (cs := #[.int .i64 0, .int .i64 0, .int .i64 0, .int .i64 0]) ?_ 0 _ rfl; (with_reducible repeat (first | refine blk_drewN ?_ _ | refine blk_drew ?_ | refine blk_alloc ?_ _)); exact BK147.out⟩, ⟨bl1_ HB.out GE147.out⟩⟩
        case round =>
         clear H'
         try clear p1
         try clear q1
         try clear hx1
         try clear p2
         try clear c4
         try clear c4b0
         try clear c5
         try clear c5b0
         try clear c6
         try clear c6b0
         try clear c7
         try clear c7b0
         try clear c7b1
         try clear c8
         try clear c8b0
         try clear c8b1
         try clear c9
         try clear hcz10_0
         try clear hcz10_1
         try clear hcz10_2
         try clear hcz10_3
         try clear hcz12_0
         try clear hcz12_1
         try clear hcz12_2
         try clear hcz12_3
         try clear hfz10_0
         try clear hfz10_1
         try clear hfz10_2
         try clear hfz10_3
         try clear hfz12_0
         try clear hfz12_1
         try clear hfz12_2
         try clear hfz12_3
         try clear hx146_0
         try clear hx146_1
         try clear hx146_2
         try clear hx146_3
         try clear p146
         try clear p2
         try clear q146
         obtain ⟨x9_2, rfl, HA, HK2, BK147, HB⟩ := hrel
         cases gk with
         | zero => exact absurd HA.out (by simp [spec_sqHit.l1])
         | succ k2 =>
          have H := HA.out
          clear HA
          simp only [spec_sqHit.l1] at H
          by_cases c13 : x9_2 = 0
          ·rw [if_pos c13] at H
           have c13b0 : (x9_2 == 0) = true := beq_iff_eq.mpr c13
           have c13b1 : (x9_2 != 0) = false := bne_eq_false_iff_eq.mpr c13
           clear c13
           obtain rfl := Option.some.inj H
           go_wp2
           go_ret
           exact ⟨er_, bl1_ HB.out GE147.out⟩
          ·rw [if_neg c13] at H
           have c13b0 : (x9_2 == 0) = false := beq_eq_false_iff_ne.mpr c13
           have c13b1 : (x9_2 != 0) = true := bne_iff_ne.mpr c13
           replace H := Option.bind_eq_some_iff.mp H
           obtain ⟨t148, A140, H⟩ := H
           replace H : (if t148 = true then (some true) else (spec_sqHit.l1 k2 l0 a1 a2 (Go.bits .and .i64 x9_2 (wrap64 (x9_2 - 1))))) = some r := H
           have A14 := Aside0.mk A140
           clear A140
           by_cases c15 : t148 = true
           ·subst c15
            have H1 : (some true) = some r := by rw [if_pos rfl] at H; exact H
            clear H
            have H := H1
            clear H1
            obtain rfl := Option.some.inj H
            go_wp2_with (first | ((with_reducible refine gate_callee (f := 95) rfl ?_); refine goesL_ (some 42) rfl rfl Tryd.func95 (by kernel_rfl) rfl #[.slice (some ad146) l0.length c0, .int .i64 (Go.bits .andNot .i64 a1 (Go.bits .and .i64 x9_2 (wrap64 (-x9_2)))), .int .i64 (wrap64 (a2 - 1))] rfl ob_ ?_; (with_reducible refine (ih k2 (by have := HK1.out; have := HK2.out; omega) _ _ l0 (Go.bits .andNot .i64 a1 (Go.bits .and .i64 x9_2 (wrap64 (-x9_2)))) (wrap64 (a2 - 1)) true _ ?side1 ?side2 A14.out).mono ?_); (case side1 => exact kc_ (Kd.C_below HR0.out HB.out)); (case side2 => exact HC0.out); rintro e w16 ⟨rfl, hb⟩; refine ⟨_, rfl, ?_⟩; have n0_ := Aside0.mk (bb_ BK147.out hb); have n1_ := Aside0.mk (below_step (bl1_ HB.out GE147.out) hb); clear BK147; clear HB; have BK147 := n0_; have HB := n1_; clear n0_ n1_; (try clear hb); (try clear hb2); (try clear hk); (try clear hi)))
            go_ret
            exact ⟨er_, bl1_ HB.out GE147.out⟩
           ·replace c15 := Bool.eq_false_iff.mpr c15
            subst c15
            have H1 : (spec_sqHit.l1 k2 l0 a1 a2 (Go.bits .and .i64 x9_2 (wrap64 (x9_2 - 1)))) = some r := by rw [if_neg (show ¬ (false = true) by decide)] at H; exact H
            clear H
            have H := H1
            clear H1
            have H' := Aside0.mk H
            clear H
            go_wp2_with (first | ((with_reducible refine gate_callee (f := 95) rfl ?_); refine goesL_ (some 42) rfl rfl Tryd.func95 (by kernel_rfl) rfl #[.slice (some ad146) l0.length c0, .int .i64 (Go.bits .andNot .i64 a1 (Go.bits .and .i64 x9_2 (wrap64 (-x9_2)))), .int .i64 (wrap64 (a2 - 1))] rfl ob_ ?_; (with_reducible refine (ih k2 (by have := HK1.out; have := HK2.out; omega) _ _ l0 (Go.bits .andNot .i64 a1 (Go.bits .and .i64 x9_2 (wrap64 (-x9_2)))) (wrap64 (a2 - 1)) false _ ?side1 ?side2 A14.out).mono ?_); (case side1 => exact kc_ (Kd.C_below HR0.out HB.out)); (case side2 => exact HC0.out); rintro e w17 ⟨rfl, hb⟩; refine ⟨_, rfl, ?_⟩; have n0_ := Aside0.mk (bb_ BK147.out hb); have n1_ := Aside0.mk (below_step (bl1_ HB.out GE147.out) hb); clear BK147; clear HB; have BK147 := n0_; have HB := n1_; clear n0_ n1_; (try clear hb); (try clear hb2); (try clear hk); (try clear hi)))
            go_roundg k2
            case measure => have := HK1.out; have := HK2.out; omega
            case rel => exact ⟨(Go.bits .and .i64 x9_2 (wrap64 (x9_2 - 1))), rs_, H', ⟨by have := HK1.out; have := HK2.out; omega⟩, ⟨bk_ BK147.out⟩, ⟨bl1_ HB.out GE147.out⟩⟩
      ·rw [if_neg c7] at H
       have c7b0 : ((Go.bits .and .i64 a1 ((rd_T122 l0 x12_1).f3)) == ((rd_T122 l0 x12_1).f3)) = false := beq_eq_false_iff_ne.mpr c7
       have c7b1 : ((Go.bits .and .i64 a1 ((rd_T122 l0 x12_1).f3)) != ((rd_T122 l0 x12_1).f3)) = true := bne_iff_ne.mpr c7
       have H' := Aside0.mk H
       clear H
       have p146 : 0 ≤ (x12_1 : Int) := of_decide_eq_true as_
       have q146 : x12_1 < (l0.length : Int) := of_decide_eq_true as_
       obtain ⟨ad146, e146, hx146_0, hx146_1, hx146_2, hx146_3⟩ := at_T122 HR0.out x12_1 p146 q146
       cases e146
       replace hx146_0 := (HB.out.cell (World.block_lt_of_cell? w _ hx146_0)).trans hx146_0
       replace hx146_1 := (HB.out.cell (World.block_lt_of_cell? w _ hx146_1)).trans hx146_1
       replace hx146_2 := (HB.out.cell (World.block_lt_of_cell? w _ hx146_2)).trans hx146_2
       replace hx146_3 := (HB.out.cell (World.block_lt_of_cell? w _ hx146_3)).trans hx146_3
       replace p146 := eq_true p146
       replace q146 := eq_true q146
       go_wp2_with (first | ((with_reducible refine gate_dst (N := 8) rfl ?_); refine boxE_ (N := 8) (cs := #[.int .i64 0, .int .i64 0, .int .i64 0, .int .i64 0]) (t := 122) ?_; intro gb147 hg w18 hbox hb; have n0_ := Aside0.mk (below_step (bl0_ HB.out) hb); have n1_ := Aside0.mk (hbox); have n2_ := Aside0.mk ((bs0_ hg HB.out : w.heap.size ≤ gb147)); have n3_ := Aside0.mk ((bs0_ hg HB.out : w.heap.size ≤ gb147)); clear HB; have HB := n0_; have BK147 := n1_; have GW147 := n2_; have GE147 := n3_; clear n0_ n1_ n2_ n3_; clear hb hbox hg; have hcz19_0 : w18.cell? ⟨gb147, 0, none⟩ = some (.int .i64 0) := (blk_cell BK147.out 0).trans rfl; have hcz19_1 : w18.cell? ⟨gb147, 1, none⟩ = some (.int .i64 0) := (blk_cell BK147.out 1).trans rfl; have hcz19_2 : w18.cell? ⟨gb147, 2, none⟩ = some (.int .i64 0) := (blk_cell BK147.out 2).trans rfl; have hcz19_3 : w18.cell? ⟨gb147, 3, none⟩ = some (.int .i64 0) := (blk_cell BK147.out 3).trans rfl; have hfz19_0 := blk_frozen BK147.out 0; have hfz19_1 := blk_frozen BK147.out 1; have hfz19_2 := blk_frozen BK147.out 2; have hfz19_3 := blk_frozen BK147.out 3))
       go_roundg k1
       case measure => have := HK1.out; omega
       case rel => exact ⟨(wrap64 (x12_1 + 1)), rs_, H', ⟨by have := HK1.out; omega⟩, ⟨bl1_ HB.out GE147.out⟩⟩
     ·rw [if_neg c6] at H
      exact absurd H (by simp)
    ·rw [if_neg c5] at H
     exact absurd H (by simp)
   ·rw [if_neg c4] at H
    have c4b0 : decide (x12_1 < (l0.length : Int)) = false := decide_eq_false c4
    clear c4
    obtain rfl := Option.some.inj H
    go_wp2
    go_ret
    exact ⟨er_, bl0_ HB.out⟩


def spec_sqFewest.l0 : Nat → List (S122) → Int → Int → Option (Int)
  | 0, _, _, _ => none
  | k + 1, x0, x1, x5 => (spec_sqHit.f k x0 x1 x5).bind fun t149 => (if t149 = true then (some x5) else (spec_sqFewest.l0 k x0 x1 (wrap64 (x5 + 1))))
def spec_sqFewest.f (k : Nat) (l0 : List (S122)) (a1 : Int) : Option (Int) := spec_sqFewest.l0 k l0 a1 0
theorem spec_sqFewest.mono_l : ∀ k, (∀ y0 y1 y2, LeO (spec_sqFewest.l0 k y0 y1 y2) (spec_sqFewest.l0 (k + 1) y0 y1 y2))
  | 0 => fun _ _ _ r h => by simp [spec_sqFewest.l0] at h
  | k + 1 => by
    have ih0 := spec_sqFewest.mono_l k
    · intro y0 y1 y2
      unfold spec_sqFewest.l0
      repeat' first
      | (with_reducible exact ih0 _ _ _)
      | (with_reducible exact spec_sqHit.mono _ _ _ _)
      | (with_reducible exact LeO.refl _)
      | (with_reducible exact LeO.none _)
      | (with_reducible refine LeO.ite ?_ ?_)
      | (with_reducible refine LeO.bind ?_ (fun _ => ?_))
      | exact ih0 _ _ _
      | exact spec_sqHit.mono _ _ _ _
      | exact LeO.none _
      | refine LeO.ite ?_ ?_
      | refine LeO.bind ?_ (fun _ => ?_)
theorem spec_sqFewest.mono : ∀ a0 a1 k, LeO (spec_sqFewest.f k a0 a1) (spec_sqFewest.f (k + 1) a0 a1) := by
  intro a0 a1 k
  have ih0 := spec_sqFewest.mono_l k
  unfold spec_sqFewest.f
  repeat' first
      | (with_reducible exact ih0 _ _ _)
      | (with_reducible exact spec_sqHit.mono _ _ _ _)
      | (with_reducible exact LeO.refl _)
      | (with_reducible exact LeO.none _)
      | (with_reducible refine LeO.ite ?_ ?_)
      | (with_reducible refine LeO.bind ?_ (fun _ => ?_))
      | exact ih0 _ _ _
      | exact spec_sqHit.mono _ _ _ _
      | exact LeO.none _
      | refine LeO.ite ?_ ?_
      | refine LeO.bind ?_ (fun _ => ?_)
set_option maxHeartbeats 8000000 in
set_option maxRecDepth 100000 in
theorem spec_sqFewest.calls (k : Nat) (A0 : Option Addr) (c0 : Nat) (l0 : List (S122)) (a1 : Int) (r : Int) (w : World) (hr0 : Kd.C k122 w A0 l0.length l0) (hc0 : l0.length ≤ c0) (h : spec_sqFewest.f k l0 a1 = some r) :
    Calls Tryd.prog 48 #[.slice A0 l0.length c0, .int .i64 a1] w fun e w' => e = .returned (.int .i64 r) ∧ Below w.heap.size w w' := by
  have HR0 := Aside0.mk hr0
  have HC0 := Aside0.mk hc0
  clear hr0 hc0
  have HB := Aside0.mk (Below.refl w.heap.size w)
  have H : (spec_sqFewest.l0 k l0 a1 0) = some r := h
  clear h
  have H' := Aside0.mk H
  clear H
  go_enter Tryd.func48, Tryd.ntmps48
  go_wp2
  go_loopg [5] k (fun kq v5 w' => ∃ (x5_1 : Int), v5 = .int .i64 x5_1 ∧ Aside0 (spec_sqFewest.l0 kq l0 a1 x5_1 = some r) ∧ Aside0 (kq ≤ k) ∧ Aside0 (Below w.heap.size w w'))
  case atStart => exact ⟨(0), rs_, H', ⟨Nat.le_refl _⟩, ⟨bl0_ HB.out⟩⟩
  case round =>
    clear H'
    try clear p2
    obtain ⟨x5_1, rfl, HA, HK1, HB⟩ := hrel
    cases gk with
    | zero => exact absurd HA.out (by simp [spec_sqFewest.l0])
    | succ k1 =>
      have H := HA.out
      clear HA
      simp only [spec_sqFewest.l0] at H
      replace H := Option.bind_eq_some_iff.mp H
      obtain ⟨t149, A30, H⟩ := H
      replace H : (if t149 = true then (some x5_1) else (spec_sqFewest.l0 k1 l0 a1 (wrap64 (x5_1 + 1)))) = some r := H
      have A3 := Aside0.mk A30
      clear A30
      by_cases c4 : t149 = true
      · subst c4
        have H1 : (some x5_1) = some r := by rw [if_pos rfl] at H; exact H
        clear H
        have H := H1
        clear H1
        obtain rfl := Option.some.inj H
        go_wp2_with (first | ((with_reducible refine gate_callee (f := 95) rfl ?_); refine goesL_ (some 9) rfl rfl Tryd.func95 (by kernel_rfl) rfl #[.slice A0 l0.length c0, .int .i64 a1, .int .i64 x5_1] rfl ob_ ?_; (with_reducible refine (spec_sqHit.calls k1 _ _ l0 a1 x5_1 true _ ?side1 ?side2 A3.out).mono ?_); (case side1 => exact kc_ (Kd.C_below HR0.out HB.out)); (case side2 => exact HC0.out); rintro e w5 ⟨rfl, hb⟩; refine ⟨_, rfl, ?_⟩; have n0_ := Aside0.mk (below_step (bl0_ HB.out) hb); clear HB; have HB := n0_; clear n0_; (try clear hb); (try clear hb2); (try clear hk); (try clear hi)))
        go_ret
        exact ⟨er_, bl0_ HB.out⟩
      · replace c4 := Bool.eq_false_iff.mpr c4
        subst c4
        have H1 : (spec_sqFewest.l0 k1 l0 a1 (wrap64 (x5_1 + 1))) = some r := by rw [if_neg (show ¬ (false = true) by decide)] at H; exact H
        clear H
        have H := H1
        clear H1
        have H' := Aside0.mk H
        clear H
        go_wp2_with (first | ((with_reducible refine gate_callee (f := 95) rfl ?_); refine goesL_ (some 9) rfl rfl Tryd.func95 (by kernel_rfl) rfl #[.slice A0 l0.length c0, .int .i64 a1, .int .i64 x5_1] rfl ob_ ?_; (with_reducible refine (spec_sqHit.calls k1 _ _ l0 a1 x5_1 false _ ?side1 ?side2 A3.out).mono ?_); (case side1 => exact kc_ (Kd.C_below HR0.out HB.out)); (case side2 => exact HC0.out); rintro e w6 ⟨rfl, hb⟩; refine ⟨_, rfl, ?_⟩; have n0_ := Aside0.mk (below_step (bl0_ HB.out) hb); clear HB; have HB := n0_; clear n0_; (try clear hb); (try clear hb2); (try clear hk); (try clear hi)))
        go_roundg k1
        case measure => have := HK1.out; omega
        case rel => exact ⟨(wrap64 (x5_1 + 1)), rs_, H', ⟨by have := HK1.out; omega⟩, ⟨bl0_ HB.out⟩⟩


def spec_sqBit.f (a0 : Int) (a1 : Int) (a2 : Bool) (a3 : Int) : Option (Int) := if a2 = true then (if 0 ≤ (wrap64 ((wrap64 (a0 * (wrap64 (a1 + 1)))) + a3)) then (some (shl .i64 1 (wrap64 ((wrap64 (a0 * (wrap64 (a1 + 1)))) + a3)))) else (none)) else (if 0 ≤ a3 then (some (shl .i64 1 a3)) else (none))
set_option maxHeartbeats 8000000 in
set_option maxRecDepth 100000 in
theorem spec_sqBit.calls (a0 : Int) (a1 : Int) (a2 : Bool) (a3 : Int) (r : Int) (w : World) (h : spec_sqBit.f a0 a1 a2 a3 = some r) :
    Calls Tryd.prog 97 #[.int .i64 a0, .int .i64 a1, .bool a2, .int .i64 a3] w fun e w' => e = .returned (.int .i64 r) ∧ Drawn0 w w' := by
  have H : (if a2 = true then (if 0 ≤ (wrap64 ((wrap64 (a0 * (wrap64 (a1 + 1)))) + a3)) then (some (shl .i64 1 (wrap64 ((wrap64 (a0 * (wrap64 (a1 + 1)))) + a3)))) else (none)) else (if 0 ≤ a3 then (some (shl .i64 1 a3)) else (none))) = some r := h
  clear h
  by_cases c5 : a2 = true
  · subst c5
    have H1 : (if 0 ≤ (wrap64 ((wrap64 (a0 * (wrap64 (a1 + 1)))) + a3)) then (some (shl .i64 1 (wrap64 ((wrap64 (a0 * (wrap64 (a1 + 1)))) + a3)))) else (none)) = some r := by rw [if_pos rfl] at H; exact H
    clear H
    have H := H1
    clear H1
    obtain ⟨ji6, hji6⟩ : ∃ j_ : Int, (wrap64 ((wrap64 (a0 * (wrap64 (a1 + 1)))) + a3)) = j_ := ⟨_, rfl⟩
    replace H : (if 0 ≤ (ji6) then (some (shl .i64 1 (ji6))) else (none)) = some r := by first | (rw [hji6] at H; exact H) | (simp only [hji6] at H ⊢; exact H)
    have hji6w : (IntKind.i64.wrap ((wrap64 (a0 * (wrap64 (a1 + 1)))) + a3)) = ji6 := (i64_w _).trans hji6
    by_cases c7 : 0 ≤ (ji6)
    · rw [if_pos c7] at H
      have c7b0 := eq_true c7
      have c7b1 : decide (0 ≤ (ji6)) = true := decide_eq_true c7
      clear c7
      obtain ⟨ji8, hji8⟩ : ∃ j_ : Int, (shl .i64 1 (ji6)) = j_ := ⟨_, rfl⟩
      replace H : (some ji8) = some r := by first | (rw [hji8] at H; exact H) | (simp only [hji8] at H ⊢; exact H)
      have hji8_ : (IntKind.i64.wrap (1 * 2 ^ min (ji6).toNat 64)) = ji8 := hji8
      have hji8z : (ji6) ≤ 64 → (IntKind.i64.wrap (1 * 2 ^ (ji6).toNat)) = ji8 := shl_small hji8
      have hji8u : (IntKind.i64.wrap (2 ^ min (ji6).toNat 64)) = ji8 := by have h_ := hji8_; rw [Int.one_mul] at h_; exact h_
      have hji8v : (ji6) ≤ 64 → (IntKind.i64.wrap (2 ^ (ji6).toNat)) = ji8 := fun hle_ => by have h_ := hji8z hle_; rw [Int.one_mul] at h_; exact h_
      have hji8y : (wrap64 (1 * 2 ^ min (ji6).toNat 64)) = ji8 := (i64_w _).symm.trans hji8_
      have hji8x : (ji6) ≤ 64 → (wrap64 (1 * 2 ^ (ji6).toNat)) = ji8 := fun h_ => (i64_w _).symm.trans (hji8z h_)
      obtain rfl := Option.some.inj H
      go_enter Tryd.func97, Tryd.ntmps97
      go_wp2
      go_ret
      exact ⟨by first | rfl | (simp; done) | (simp only [← hji6, ← hji8] <;> (first | rfl | simp)) | (simp [*]; done), by repeat (first | exact Drawn0.refl _ | apply Drawn0.step)⟩
    · rw [if_neg c7] at H
      exact absurd H (by simp)
  · replace c5 := Bool.eq_false_iff.mpr c5
    subst c5
    have H1 : (if 0 ≤ a3 then (some (shl .i64 1 a3)) else (none)) = some r := by rw [if_neg (show ¬ (false = true) by decide)] at H; exact H
    clear H
    have H := H1
    clear H1
    by_cases c9 : 0 ≤ a3
    · rw [if_pos c9] at H
      have c9b0 := eq_true c9
      have c9b1 : decide (0 ≤ a3) = true := decide_eq_true c9
      clear c9
      obtain ⟨ji10, hji10⟩ : ∃ j_ : Int, (shl .i64 1 a3) = j_ := ⟨_, rfl⟩
      replace H : (some ji10) = some r := by first | (rw [hji10] at H; exact H) | (simp only [hji10] at H ⊢; exact H)
      have hji10_ : (IntKind.i64.wrap (1 * 2 ^ min a3.toNat 64)) = ji10 := hji10
      have hji10z : a3 ≤ 64 → (IntKind.i64.wrap (1 * 2 ^ a3.toNat)) = ji10 := shl_small hji10
      have hji10u : (IntKind.i64.wrap (2 ^ min a3.toNat 64)) = ji10 := by have h_ := hji10_; rw [Int.one_mul] at h_; exact h_
      have hji10v : a3 ≤ 64 → (IntKind.i64.wrap (2 ^ a3.toNat)) = ji10 := fun hle_ => by have h_ := hji10z hle_; rw [Int.one_mul] at h_; exact h_
      have hji10y : (wrap64 (1 * 2 ^ min a3.toNat 64)) = ji10 := (i64_w _).symm.trans hji10_
      have hji10x : a3 ≤ 64 → (wrap64 (1 * 2 ^ a3.toNat)) = ji10 := fun h_ => (i64_w _).symm.trans (hji10z h_)
      obtain rfl := Option.some.inj H
      go_enter Tryd.func97, Tryd.ntmps97
      go_wp2
      go_ret
      exact ⟨by first | rfl | (simp; done) | (simp only [← hji10] <;> (first | rfl | simp)) | (simp [*]; done), by repeat (first | exact Drawn0.refl _ | apply Drawn0.step)⟩
    · rw [if_neg c9] at H
      exact absurd H (by simp)


mutual
def spec_sqAround.l0 : Nat → Int → Int → Int → Int → Int → Int → Int → Int → Option (Int)
 | 0, _, _, _, _, _, _, _, _ => none
 | k + 1, x0, x1, x2, x3, x4, x5, x13, x14 => if x14 < x4 then ((spec_sqBit.f x0 x1 false (wrap64 ((wrap64 ((wrap64 (x3 * x0)) + x2)) + x14))).bind fun t150 => ((spec_sqBit.f x0 x1 false (wrap64 ((wrap64 ((wrap64 ((wrap64 (x3 + x5)) * x0)) + x2)) + x14))).bind fun t151 => (spec_sqAround.l0 k x0 x1 x2 x3 x4 x5 (Go.bits .or .i64 x13 (Go.bits .or .i64 t150 t151)) (wrap64 (x14 + 1))))) else (spec_sqAround.l1 k x0 x1 x2 x3 x4 x5 x13 0)
def spec_sqAround.l1 : Nat → Int → Int → Int → Int → Int → Int → Int → Int → Option (Int)
 | 0, _, _, _, _, _, _, _, _ => none
 | k + 1, x0, x1, x2, x3, x4, x5, x13, x15 => if x15 < x5 then ((spec_sqBit.f x0 x1 true (wrap64 ((wrap64 ((wrap64 (x3 + x15)) * (wrap64 (x0 + 1)))) + x2))).bind fun t152 => ((spec_sqBit.f x0 x1 true (wrap64 ((wrap64 ((wrap64 ((wrap64 (x3 + x15)) * (wrap64 (x0 + 1)))) + x2)) + x4))).bind fun t153 => (spec_sqAround.l1 k x0 x1 x2 x3 x4 x5 (Go.bits .or .i64 x13 (Go.bits .or .i64 t152 t153)) (wrap64 (x15 + 1))))) else (some x13)
end
def spec_sqAround.f (k : Nat) (a0 : Int) (a1 : Int) (a2 : Int) (a3 : Int) (a4 : Int) (a5 : Int) : Option (Int) := spec_sqAround.l0 k a0 a1 a2 a3 a4 a5 0 0
theorem spec_sqAround.mono_l : ∀ k, (∀ y0 y1 y2 y3 y4 y5 y6 y7, LeO (spec_sqAround.l0 k y0 y1 y2 y3 y4 y5 y6 y7) (spec_sqAround.l0 (k + 1) y0 y1 y2 y3 y4 y5 y6 y7)) ∧ (∀ y0 y1 y2 y3 y4 y5 y6 y7, LeO (spec_sqAround.l1 k y0 y1 y2 y3 y4 y5 y6 y7) (spec_sqAround.l1 (k + 1) y0 y1 y2 y3 y4 y5 y6 y7))
 | 0 => ⟨fun _ _ _ _ _ _ _ _ r h => by simp [spec_sqAround.l0] at h, fun _ _ _ _ _ _ _ _ r h => by simp [spec_sqAround.l1] at h⟩
 | k + 1 => by
  obtain ⟨ih0, ih1⟩ := spec_sqAround.mono_l k
  refine ⟨?_, ?_⟩
  ·intro y0 y1 y2 y3 y4 y5 y6 y7
   unfold spec_sqAround.l0
   repeat' first
   | (with_reducible exact ih0 _ _ _ _ _ _ _ _)
   | (with_reducible exact ih1 _ _ _ _ _ _ _ _)
   | (with_reducible exact LeO.refl _)
   | (with_reducible exact LeO.none _)
   | (with_reducible refine LeO.ite ?_ ?_)
   | (with_reducible refine LeO.bind ?_ (fun _ => ?_))
   | exact ih0 _ _ _ _ _ _ _ _
   | exact ih1 _ _ _ _ _ _ _ _
   | exact LeO.none _
   | refine LeO.ite ?_ ?_
   | refine LeO.bind ?_ (fun _ => ?_)
  ·intro y0 y1 y2 y3 y4 y5 y6 y7
   unfold spec_sqAround.l1
   repeat' first
   | (with_reducible exact ih0 _ _ _ _ _ _ _ _)
   | (with_reducible exact ih1 _ _ _ _ _ _ _ _)
   | (with_reducible exact LeO.refl _)
   | (with_reducible exact LeO.none _)
   | (with_reducible refine LeO.ite ?_ ?_)
   | (with_reducible refine LeO.bind ?_ (fun _ => ?_))
   | exact ih0 _ _ _ _ _ _ _ _
   | exact ih1 _ _ _ _ _ _ _ _
   | exact LeO.none _
   | refine LeO.ite ?_ ?_
   | refine LeO.bind ?_ (fun _ => ?_)
theorem spec_sqAround.mono : ∀ a0 a1 a2 a3 a4 a5 k, LeO (spec_sqAround.f k a0 a1 a2 a3 a4 a5) (spec_sqAround.f (k + 1) a0 a1 a2 a3 a4 a5) := by
 intro a0 a1 a2 a3 a4 a5 k
 obtain ⟨ih0, ih1⟩ := spec_sqAround.mono_l k
 unfold spec_sqAround.f
 repeat' first
   | (with_reducible exact ih0 _ _ _ _ _ _ _ _)
   | (with_reducible exact ih1 _ _ _ _ _ _ _ _)
   | (with_reducible exact LeO.refl _)
   | (with_reducible exact LeO.none _)
   | (with_reducible refine LeO.ite ?_ ?_)
   | (with_reducible refine LeO.bind ?_ (fun _ => ?_))
   | exact ih0 _ _ _ _ _ _ _ _
   | exact ih1 _ _ _ _ _ _ _ _
   | exact LeO.none _
   | refine LeO.ite ?_ ?_
   | refine LeO.bind ?_ (fun _ => ?_)
set_option maxHeartbeats 8000000 in
set_option maxRecDepth 100000 in
theorem spec_sqAround.calls (k : Nat) (a0 : Int) (a1 : Int) (a2 : Int) (a3 : Int) (a4 : Int) (a5 : Int) (r : Int) (w : World) (h : spec_sqAround.f k a0 a1 a2 a3 a4 a5 = some r) :
  Calls Tryd.prog 96 #[.int .i64 a0, .int .i64 a1, .int .i64 a2, .int .i64 a3, .int .i64 a4, .int .i64 a5] w fun e w' => e = .returned (.int .i64 r) ∧ Drawn0 w w' := by
 have H : (spec_sqAround.l0 k a0 a1 a2 a3 a4 a5 0 0) = some r := h
 clear h
 have H' := Aside0.mk H
 clear H
 go_enter Tryd.func96, Tryd.ntmps96
 go_wp2
 go_loopg [13, 14] k (fun kq v13 v14 w' => ∃ (x13_1 : Int) (x14_1 : Int), v13 = .int .i64 x13_1 ∧ v14 = .int .i64 x14_1 ∧ Aside0 (spec_sqAround.l0 kq a0 a1 a2 a3 a4 a5 x13_1 x14_1 = some r) ∧ Aside0 (kq ≤ k) ∧ Drawn0 w w')
 case atStart => exact ⟨(0), (0), rs_, rs_, H', ⟨Nat.le_refl _⟩, by repeat (first | exact Drawn0.refl _ | apply Drawn0.step)⟩
 case round =>
  clear H'
  try clear p2
  obtain ⟨x13_1, x14_1, rfl, rfl, HA, HK1, ⟨m1, rfl⟩⟩ := hrel
  cases gk with
  | zero => exact absurd HA.out (by simp [spec_sqAround.l0])
  | succ k1 =>
   have H := HA.out
   clear HA
   simp only [spec_sqAround.l0] at H
   by_cases c7 : x14_1 < a4
   ·rw [if_pos c7] at H
    have c7b0 : decide (x14_1 < a4) = true := decide_eq_true c7
    clear c7
    replace H := Option.bind_eq_some_iff.mp H
    obtain ⟨t150, A80, H⟩ := H
    replace H : ((spec_sqBit.f a0 a1 false (wrap64 ((wrap64 ((wrap64 ((wrap64 (a3 + a5)) * a0)) + a2)) + x14_1))).bind fun t151 => (spec_sqAround.l0 k1 a0 a1 a2 a3 a4 a5 (Go.bits .or .i64 x13_1 (Go.bits .or .i64 t150 t151)) (wrap64 (x14_1 + 1)))) = some r := H
    have A8 := Aside0.mk A80
    clear A80
    replace H := Option.bind_eq_some_iff.mp H
    obtain ⟨t151, A90, H⟩ := H
    replace H : (spec_sqAround.l0 k1 a0 a1 a2 a3 a4 a5 (Go.bits .or .i64 x13_1 (Go.bits .or .i64 t150 t151)) (wrap64 (x14_1 + 1))) = some r := H
    have A9 := Aside0.mk A90
    clear A90
    have H' := Aside0.mk H
    clear H
    go_wp2_with (first | ((with_reducible refine gate_callee (f := 97) rfl ?_); refine goesL_ (some 31) rfl rfl Tryd.func97 (by kernel_rfl) rfl #[.int .i64 a0, .int .i64 a1, .bool false, .int .i64 (wrap64 ((wrap64 ((wrap64 (a3 * a0)) + a2)) + x14_1))] rfl ob_ ?_; (with_reducible refine (spec_sqBit.calls a0 a1 false (wrap64 ((wrap64 ((wrap64 (a3 * a0)) + a2)) + x14_1)) t150 _ A8.out).mono ?_); rintro e w' ⟨rfl, ⟨nd, rfl⟩⟩; refine ⟨_, rfl, ?_⟩) | ((with_reducible refine gate_callee (f := 97) rfl ?_); refine goesL_ (some 43) rfl rfl Tryd.func97 (by kernel_rfl) rfl #[.int .i64 a0, .int .i64 a1, .bool false, .int .i64 (wrap64 ((wrap64 ((wrap64 ((wrap64 (a3 + a5)) * a0)) + a2)) + x14_1))] rfl ob_ ?_; (with_reducible refine (spec_sqBit.calls a0 a1 false (wrap64 ((wrap64 ((wrap64 ((wrap64 (a3 + a5)) * a0)) + a2)) + x14_1)) t151 _ A9.out).mono ?_); rintro e w' ⟨rfl, ⟨nd, rfl⟩⟩; refine ⟨_, rfl, ?_⟩))
    go_roundg k1
    case measure => have := HK1.out; omega
    case rel => exact ⟨(Go.bits .or .i64 x13_1 (Go.bits .or .i64 t150 t151)), (wrap64 (x14_1 + 1)), rs_, rs_, H', ⟨by have := HK1.out; omega⟩, by repeat (first | exact Drawn0.refl _ | apply Drawn0.step)⟩
   ·rw [if_neg c7] at H
    have c7b0 : decide (x14_1 < a4) = false := decide_eq_false c7
    clear c7
    have H' := Aside0.mk H
    clear H
    go_wp2
    go_loopg [13, 15] k1 (fun kq v13 v15 w' => ∃ (x13_2 : Int) (x15_2 : Int), v13 = .int .i64 x13_2 ∧ v15 = .int .i64 x15_2 ∧ Aside0 (spec_sqAround.l1 kq a0 a1 a2 a3 a4 a5 x13_2 x15_2 = some r) ∧ Aside0 (kq ≤ k1) ∧ Drawn0 w w')
    case atStart => exact ⟨(x13_1), (0), rs_, rs_, H', ⟨Nat.le_refl _⟩, by repeat (first | exact Drawn0.refl _ | apply Drawn0.step)⟩
    case round =>
     clear H'
     try clear p2
     try clear p6
     try clear c7
     try clear c7b0
     try clear c9
     try clear p2
     obtain ⟨x13_2, x15_2, rfl, rfl, HA, HK2, ⟨m2, rfl⟩⟩ := hrel
     cases gk with
     | zero => exact absurd HA.out (by simp [spec_sqAround.l1])
     | succ k2 =>
      have H := HA.out
      clear HA
      simp only [spec_sqAround.l1] at H
      by_cases c10 : x15_2 < a5
      ·rw [if_pos c10] at H
       have c10b0 : decide (x15_2 < a5) = true := decide_eq_true c10
       clear c10
       replace H := Option.bind_eq_some_iff.mp H
       obtain ⟨t152, A110, H⟩ := H
       replace H : ((spec_sqBit.f a0 a1 true (wrap64 ((wrap64 ((wrap64 ((wrap64 (a3 + x15_2)) * (wrap64 (a0 + 1)))) + a2)) + a4))).bind fun t153 => (spec_sqAround.l1 k2 a0 a1 a2 a3 a4 a5 (Go.bits .or .i64 x13_2 (Go.bits .or .i64 t152 t153)) (wrap64 (x15_2 + 1)))) = some r := H
       have A11 := Aside0.mk A110
       clear A110
       replace H := Option.bind_eq_some_iff.mp H
       obtain ⟨t153, A120, H⟩ := H
       replace H : (spec_sqAround.l1 k2 a0 a1 a2 a3 a4 a5 (Go.bits .or .i64 x13_2 (Go.bits .or .i64 t152 t153)) (wrap64 (x15_2 + 1))) = some r := H
       have A12 := Aside0.mk A120
       clear A120
       have H' := Aside0.mk H
       clear H
       go_wp2_with (first | ((with_reducible refine gate_callee (f := 97) rfl ?_); refine goesL_ (some 62) rfl rfl Tryd.func97 (by kernel_rfl) rfl #[.int .i64 a0, .int .i64 a1, .bool true, .int .i64 (wrap64 ((wrap64 ((wrap64 (a3 + x15_2)) * (wrap64 (a0 + 1)))) + a2))] rfl ob_ ?_; (with_reducible refine (spec_sqBit.calls a0 a1 true (wrap64 ((wrap64 ((wrap64 (a3 + x15_2)) * (wrap64 (a0 + 1)))) + a2)) t152 _ A11.out).mono ?_); rintro e w' ⟨rfl, ⟨nd, rfl⟩⟩; refine ⟨_, rfl, ?_⟩) | ((with_reducible refine gate_callee (f := 97) rfl ?_); refine goesL_ (some 75) rfl rfl Tryd.func97 (by kernel_rfl) rfl #[.int .i64 a0, .int .i64 a1, .bool true, .int .i64 (wrap64 ((wrap64 ((wrap64 ((wrap64 (a3 + x15_2)) * (wrap64 (a0 + 1)))) + a2)) + a4))] rfl ob_ ?_; (with_reducible refine (spec_sqBit.calls a0 a1 true (wrap64 ((wrap64 ((wrap64 ((wrap64 (a3 + x15_2)) * (wrap64 (a0 + 1)))) + a2)) + a4)) t153 _ A12.out).mono ?_); rintro e w' ⟨rfl, ⟨nd, rfl⟩⟩; refine ⟨_, rfl, ?_⟩))
       go_roundg k2
       case measure => have := HK1.out; have := HK2.out; omega
       case rel => exact ⟨(Go.bits .or .i64 x13_2 (Go.bits .or .i64 t152 t153)), (wrap64 (x15_2 + 1)), rs_, rs_, H', ⟨by have := HK1.out; have := HK2.out; omega⟩, by repeat (first | exact Drawn0.refl _ | apply Drawn0.step)⟩
      ·rw [if_neg c10] at H
       have c10b0 : decide (x15_2 < a5) = false := decide_eq_false c10
       clear c10
       obtain rfl := Option.some.inj H
       go_wp2
       go_ret
       exact ⟨by first | rfl | (simp; done) | (simp [*]; done), by repeat (first | exact Drawn0.refl _ | apply Drawn0.step)⟩


mutual
def spec_sqAll.l0 : Nat → Int → Int → List (S122) → Int → Option ((List (S122)))
 | 0, _, _, _, _ => none
 | k + 1, x0, x1, x5, x6 => if x6 ≤ x0 then (spec_sqAll.j1 k x0 x1 x5 x6 (decide (x6 ≤ x1))) else (spec_sqAll.j1 k x0 x1 x5 x6 false)
def spec_sqAll.j1 : Nat → Int → Int → List (S122) → Int → Bool → Option ((List (S122)))
 | 0, _, _, _, _, _ => none
 | k + 1, x0, x1, x5, x6, x16 => if x16 = true then (spec_sqAll.l1 k x0 x1 x5 x6 0) else (some x5)
def spec_sqAll.l1 : Nat → Int → Int → List (S122) → Int → Int → Option ((List (S122)))
 | 0, _, _, _, _, _ => none
 | k + 1, x0, x1, x5, x6, x7 => if (wrap64 (x7 + x6)) ≤ x1 then (spec_sqAll.l2 k x0 x1 x5 x6 x7 0) else (spec_sqAll.l0 k x0 x1 x5 (wrap64 (x6 + 1)))
def spec_sqAll.l2 : Nat → Int → Int → List (S122) → Int → Int → Int → Option ((List (S122)))
 | 0, _, _, _, _, _, _ => none
 | k + 1, x0, x1, x5, x6, x7, x8 => if (wrap64 (x8 + x6)) ≤ x0 then ((spec_sqAround.f k x0 x1 x8 x7 x6 x6).bind fun t154 => (if x5.length < 4398046511104 then (spec_sqAll.l2 k x0 x1 (x5 ++ [(⟨x8, x7, x6, t154⟩ : S122)]) x6 x7 (wrap64 (x8 + 1))) else (none))) else (spec_sqAll.l1 k x0 x1 x5 x6 (wrap64 (x7 + 1)))
end
def spec_sqAll.f (k : Nat) (a0 : Int) (a1 : Int) : Option ((List (S122))) := spec_sqAll.l0 k a0 a1 ([] : List (S122)) 1
theorem spec_sqAll.mono_l : ∀ k, (∀ y0 y1 y2 y3, LeO (spec_sqAll.l0 k y0 y1 y2 y3) (spec_sqAll.l0 (k + 1) y0 y1 y2 y3)) ∧ (∀ y0 y1 y2 y3 y4, LeO (spec_sqAll.j1 k y0 y1 y2 y3 y4) (spec_sqAll.j1 (k + 1) y0 y1 y2 y3 y4)) ∧ (∀ y0 y1 y2 y3 y4, LeO (spec_sqAll.l1 k y0 y1 y2 y3 y4) (spec_sqAll.l1 (k + 1) y0 y1 y2 y3 y4)) ∧ (∀ y0 y1 y2 y3 y4 y5, LeO (spec_sqAll.l2 k y0 y1 y2 y3 y4 y5) (spec_sqAll.l2 (k + 1) y0 y1 y2 y3 y4 y5))
 | 0 => ⟨fun _ _ _ _ r h => by simp [spec_sqAll.l0] at h, fun _ _ _ _ _ r h => by simp [spec_sqAll.j1] at h, fun _ _ _ _ _ r h => by simp [spec_sqAll.l1] at h, fun _ _ _ _ _ _ r h => by simp [spec_sqAll.l2] at h⟩
 | k + 1 => by
  obtain ⟨ih0, ih1, ih2, ih3⟩ := spec_sqAll.mono_l k
  refine ⟨?_, ?_, ?_, ?_⟩
  ·intro y0 y1 y2 y3
   unfold spec_sqAll.l0
   repeat' first
   | (with_reducible exact ih0 _ _ _ _)
   | (with_reducible exact ih1 _ _ _ _ _)
   | (with_reducible exact ih2 _ _ _ _ _)
   | (with_reducible exact ih3 _ _ _ _ _ _)
   | (with_reducible exact spec_sqAround.mono _ _ _ _ _ _ _)
   | (with_reducible exact LeO.refl _)
   | (with_reducible exact LeO.none _)
   | (with_reducible refine LeO.ite ?_ ?_)
   | (with_reducible refine LeO.bind ?_ (fun _ => ?_))
   | exact ih0 _ _ _ _
   | exact ih1 _ _ _ _ _
   | exact ih2 _ _ _ _ _
   | exact ih3 _ _ _ _ _ _
   | exact spec_sqAround.mono _ _ _ _ _ _ _
   | exact LeO.none _
   | refine LeO.ite ?_ ?_
   | refine LeO.bind ?_ (fun _ => ?_)
  ·intro y0 y1 y2 y3 y4
   unfold spec_sqAll.j1
   repeat' first
   | (with_reducible exact ih0 _ _ _ _)
   | (with_reducible exact ih1 _ _ _ _ _)
   | (with_reducible exact ih2 _ _ _ _ _)
   | (with_reducible exact ih3 _ _ _ _ _ _)
   | (with_reducible exact spec_sqAround.mono _ _ _ _ _ _ _)
   | (with_reducible exact LeO.refl _)
   | (with_reducible exact LeO.none _)
   | (with_reducible refine LeO.ite ?_ ?_)
   | (with_reducible refine LeO.bind ?_ (fun _ => ?_))
   | exact ih0 _ _ _ _
   | exact ih1 _ _ _ _ _
   | exact ih2 _ _ _ _ _
   | exact ih3 _ _ _ _ _ _
   | exact spec_sqAround.mono _ _ _ _ _ _ _
   | exact LeO.none _
   | refine LeO.ite ?_ ?_
   | refine LeO.bind ?_ (fun _ => ?_)
  ·intro y0 y1 y2 y3 y4
   unfold spec_sqAll.l1
   repeat' first
   | (with_reducible exact ih0 _ _ _ _)
   | (with_reducible exact ih1 _ _ _ _ _)
   | (with_reducible exact ih2 _ _ _ _ _)
   | (with_reducible exact ih3 _ _ _ _ _ _)
   | (with_reducible exact spec_sqAround.mono _ _ _ _ _ _ _)
   | (with_reducible exact LeO.refl _)
   | (with_reducible exact LeO.none _)
   | (with_reducible refine LeO.ite ?_ ?_)
   | (with_reducible refine LeO.bind ?_ (fun _ => ?_))
   | exact ih0 _ _ _ _
   | exact ih1 _ _ _ _ _
   | exact ih2 _ _ _ _ _
   | exact ih3 _ _ _ _ _ _
   | exact spec_sqAround.mono _ _ _ _ _ _ _
   | exact LeO.none _
   | refine LeO.ite ?_ ?_
   | refine LeO.bind ?_ (fun _ => ?_)
  ·intro y0 y1 y2 y3 y4 y5
   unfold spec_sqAll.l2
   repeat' first
   | (with_reducible exact ih0 _ _ _ _)
   | (with_reducible exact ih1 _ _ _ _ _)
   | (with_reducible exact ih2 _ _ _ _ _)
   | (with_reducible exact ih3 _ _ _ _ _ _)
   | (with_reducible exact spec_sqAround.mono _ _ _ _ _ _ _)
   | (with_reducible exact LeO.refl _)
   | (with_reducible exact LeO.none _)
   | (with_reducible refine LeO.ite ?_ ?_)
   | (with_reducible refine LeO.bind ?_ (fun _ => ?_))
   | exact ih0 _ _ _ _
   | exact ih1 _ _ _ _ _
   | exact ih2 _ _ _ _ _
   | exact ih3 _ _ _ _ _ _
   | exact spec_sqAround.mono _ _ _ _ _ _ _
   | exact LeO.none _
   | refine LeO.ite ?_ ?_
   | refine LeO.bind ?_ (fun _ => ?_)
theorem spec_sqAll.mono : ∀ a0 a1 k, LeO (spec_sqAll.f k a0 a1) (spec_sqAll.f (k + 1) a0 a1) := by
 intro a0 a1 k
 obtain ⟨ih0, ih1, ih2, ih3⟩ := spec_sqAll.mono_l k
 unfold spec_sqAll.f
 repeat' first
   | (with_reducible exact ih0 _ _ _ _)
   | (with_reducible exact ih1 _ _ _ _ _)
   | (with_reducible exact ih2 _ _ _ _ _)
   | (with_reducible exact ih3 _ _ _ _ _ _)
   | (with_reducible exact spec_sqAround.mono _ _ _ _ _ _ _)
   | (with_reducible exact LeO.refl _)
   | (with_reducible exact LeO.none _)
   | (with_reducible refine LeO.ite ?_ ?_)
   | (with_reducible refine LeO.bind ?_ (fun _ => ?_))
   | exact ih0 _ _ _ _
   | exact ih1 _ _ _ _ _
   | exact ih2 _ _ _ _ _
   | exact ih3 _ _ _ _ _ _
   | exact spec_sqAround.mono _ _ _ _ _ _ _
   | exact LeO.none _
   | refine LeO.ite ?_ ?_
   | refine LeO.bind ?_ (fun _ => ?_)
set_option maxHeartbeats 8000000 in
set_option maxRecDepth 100000 in
theorem spec_sqAll.calls (k : Nat) (a0 : Int) (a1 : Int) (r : List (S122)) (w : World) (h : spec_sqAll.f k a0 a1 = some r) :
  Calls Tryd.prog 49 #[.int .i64 a0, .int .i64 a1] w fun e w' => ∃ v0_ : Value, e = .returned (v0_) ∧ Kd.R k122 122 w' w.heap.size (fun _ => True) v0_ r ∧ Below w.heap.size w w' := by
 have hu122 := Tryd.underlying122
 have HB := Aside0.mk (Below.refl w.heap.size w)
 have H : (spec_sqAll.l0 k a0 a1 ([] : List (S122)) 1) = some r := h
 clear h
 have H' := Aside0.mk H
 clear H
 go_enter Tryd.func49, Tryd.ntmps49
 go_wp2
 go_loopg [5, 6] k (fun kq v5 v6 w' => ∃ (x5_1 : List (S122)) (x6_1 : Int), v6 = .int .i64 x6_1 ∧ Aside0 (spec_sqAll.l0 kq a0 a1 x5_1 x6_1 = some r) ∧ Aside0 (kq ≤ k) ∧ Aside0 (Kd.R k122 122 w' w.heap.size (fun _ => True) v5 x5_1) ∧ Aside0 (Below w.heap.size w w'))
 case atStart => exact ⟨(([] : List (S122))), (1), rs_, H', ⟨Nat.le_refl _⟩, ⟨by first | exact Kd.R_nil _ _ _ _ _ | exact Kd.N_nil _ _ _ _ _ | exact Kd.V_nil _ _ _ _ _ | exact Kd.Q_nil _ _ _ _ _ | exact Kd.S_nil _ _ _ _ _⟩, ⟨bl0_ HB.out⟩⟩
 case round =>
  clear H'
  try clear p2
  obtain ⟨x5_1, x6_1, rfl, HA, HK1, HO_5, HB⟩ := hrel
  cases gk with
  | zero => exact absurd HA.out (by simp [spec_sqAll.l0])
  | succ k1 =>
   have H := HA.out
   clear HA
   simp only [spec_sqAll.l0] at H
   have HC3 := Aside0.mk H
   clear H
   go_upto_region 3 with (fail)
   go_cut [16] (fun v16 wc => ∃ (kq : Nat) (x16_2 : Bool), v16 = .bool x16_2 ∧ Aside0 (spec_sqAll.j1 kq a0 a1 x5_1 x6_1 x16_2 = some r) ∧ Aside0 (kq ≤ k1) ∧ Aside0 (Kd.R k122 122 wc w.heap.size (fun _ => True) u5 x5_1) ∧ Aside0 (Below w.heap.size w wc))
   case first =>
    have H := HC3.out
    clear HC3
    by_cases c4 : x6_1 ≤ a0
    ·rw [if_pos c4] at H
     have c4b0 : decide (x6_1 ≤ a0) = true := decide_eq_true c4
     clear c4
     (first | rw [c4b0] | (simp only [i64_w, i32_w]; rw [c4b0]) | skip)
     have H' := Aside0.mk H
     clear H
     go_wp2
     go_meet
     case rel => exact ⟨_, (decide (x6_1 ≤ a1)), rs_, H', ⟨by have := HK1.out; first | omega | exact Nat.le_refl _⟩, ⟨kr_ HO_5.out⟩, ⟨bl0_ HB.out⟩⟩
    ·rw [if_neg c4] at H
     have c4b0 : decide (x6_1 ≤ a0) = false := decide_eq_false c4
     clear c4
     (first | rw [c4b0] | (simp only [i64_w, i32_w]; rw [c4b0]) | skip)
     have H' := Aside0.mk H
     clear H
     go_wp2
     go_meet
     case rel => exact ⟨_, (false), rs_, H', ⟨by have := HK1.out; first | omega | exact Nat.le_refl _⟩, ⟨kr_ HO_5.out⟩, ⟨bl0_ HB.out⟩⟩
   case rest =>
    clear HC3
    try clear p2
    try clear c4
    try clear c4b0
    try clear p2
    obtain ⟨kq, x16_2, rfl, HA, HJ2, HO_5, HB⟩ := hcut
    cases kq with
    | zero => exact absurd HA.out (by simp [spec_sqAll.j1])
    | succ kj2 =>
     have H := HA.out
     clear HA
     simp only [spec_sqAll.j1] at H
     by_cases c5 : x16_2 = true
     ·subst c5
      have H1 : (spec_sqAll.l1 kj2 a0 a1 x5_1 x6_1 0) = some r := by rw [if_pos rfl] at H; exact H
      clear H
      have H := H1
      clear H1
      have H' := Aside0.mk H
      clear H
      go_wp2
      go_loopg [5, 7] kj2 (fun kq v5 v7 w' => ∃ (x5_3 : List (S122)) (x7_3 : Int), v7 = .int .i64 x7_3 ∧ Aside0 (spec_sqAll.l1 kq a0 a1 x5_3 x6_1 x7_3 = some r) ∧ Aside0 (kq ≤ kj2) ∧ Aside0 (Kd.R k122 122 w' w.heap.size (fun _ => True) v5 x5_3) ∧ Aside0 (Below w.heap.size w w'))
      case atStart => exact ⟨(x5_1), (0), rs_, H', ⟨Nat.le_refl _⟩, ⟨kr_ HO_5.out⟩, ⟨bl0_ HB.out⟩⟩
      case round =>
       clear H'
       try clear p2
       try clear c4
       try clear c4b0
       try clear c5
       try clear p2
       obtain ⟨x5_3, x7_3, rfl, HA, HK3, HO_5, HB⟩ := hrel
       cases gk with
       | zero => exact absurd HA.out (by simp [spec_sqAll.l1])
       | succ k3 =>
        have H := HA.out
        clear HA
        simp only [spec_sqAll.l1] at H
        by_cases c6 : (wrap64 (x7_3 + x6_1)) ≤ a1
        ·rw [if_pos c6] at H
         have c6b0 : decide ((wrap64 (x7_3 + x6_1)) ≤ a1) = true := decide_eq_true c6
         clear c6
         have H' := Aside0.mk H
         clear H
         go_wp2
         go_loopg [5, 8] k3 (fun kq v5 v8 w' => ∃ (x5_4 : List (S122)) (x8_4 : Int), v8 = .int .i64 x8_4 ∧ Aside0 (spec_sqAll.l2 kq a0 a1 x5_4 x6_1 x7_3 x8_4 = some r) ∧ Aside0 (kq ≤ k3) ∧ Aside0 (Kd.R k122 122 w' w.heap.size (fun _ => True) v5 x5_4) ∧ Aside0 (Below w.heap.size w w'))
         case atStart => exact ⟨(x5_3), (0), rs_, H', ⟨Nat.le_refl _⟩, ⟨kr_ HO_5.out⟩, ⟨bl0_ HB.out⟩⟩
         case round =>
          clear H'
          try clear p2
          try clear c4
          try clear c4b0
          try clear c5
          try clear c6
          try clear c6b0
          try clear p6
          try clear p2
          obtain ⟨x5_4, x8_4, rfl, HA, HK4, HO_5, HB⟩ := hrel
          cases gk with
          | zero => exact absurd HA.out (by simp [spec_sqAll.l2])
          | succ k4 =>
           have H := HA.out
           clear HA
           simp only [spec_sqAll.l2] at H
           by_cases c7 : (wrap64 (x8_4 + x6_1)) ≤ a0
           ·rw [if_pos c7] at H
            have c7b0 : decide ((wrap64 (x8_4 + x6_1)) ≤ a0) = true := decide_eq_true c7
            clear c7
            replace H := Option.bind_eq_some_iff.mp H
            obtain ⟨t154, A80, H⟩ := H
            replace H : (if x5_4.length < 4398046511104 then (spec_sqAll.l2 k4 a0 a1 (x5_4 ++ [(⟨x8_4, x7_3, x6_1, t154⟩ : S122)]) x6_1 x7_3 (wrap64 (x8_4 + 1))) else (none)) = some r := H
            have A8 := Aside0.mk A80
            clear A80
            by_cases c9 : x5_4.length < 4398046511104
            ·rw [if_pos c9] at H
             have LMc9 := Aside0.mk c9
             clear c9
             obtain ⟨y155, hy155⟩ : ∃ y_ : List (S122), y_ = (x5_4 ++ [(⟨x8_4, x7_3, x6_1, t154⟩ : S122)]) := ⟨_, rfl⟩
             replace H : (spec_sqAll.l2 k4 a0 a1 y155 x6_1 x7_3 (wrap64 (x8_4 + 1))) = some r := by first | (rw [hy155]; with_reducible exact H) | (have H2_ := (Option.bind_some _ _).symm.trans H; rw [hy155]; with_reducible exact H2_) | (have H2_ := (Option.bind_some _ _).symm.trans H; with_reducible exact H2_) | with_reducible exact H | (rw [hy155]; exact H) | exact H
             have Ny155 := Aside0.mk hy155
             clear hy155
             have H' := Aside0.mk H
             clear H
             go_wp2_with (first | ((with_reducible refine gate_callee (f := 96) rfl ?_); refine goesL_ (some 43) rfl rfl Tryd.func96 (by kernel_rfl) rfl #[.int .i64 a0, .int .i64 a1, .int .i64 x8_4, .int .i64 x7_3, .int .i64 x6_1, .int .i64 x6_1] rfl ob_ ?_; (with_reducible refine (spec_sqAround.calls k4 a0 a1 x8_4 x7_3 x6_1 x6_1 t154 _ A8.out).mono ?_); rintro e w' ⟨rfl, ⟨nd, rfl⟩⟩; refine ⟨_, rfl, ?_⟩) | ((with_reducible refine gate_builtin (b := .append) (xs := #[.tmp 33, .tmp 45]) rfl ?_); at_builtin; refine Kd.R_append k122 (w0 := w) w.heap.size rfl (.tmp 33) (.tmp 45) 69 122 (.agg #[(.int .i64 0), (.int .i64 0), (.int .i64 0), (.int .i64 0)]) 32 rfl Tryd.underlying69 info122 rfl (by decide) (by omega) u5 x5_4 (⟨x8_4, x7_3, x6_1, t154⟩ : S122) [.int .i64 x8_4, .int .i64 x7_3, .int .i64 x6_1, .int .i64 t154] (fun _ => True) (fun _ => False) rfl rfl ?aP (fun _ hk => hk.elim) ?aF ?aO ?aB ?aS ?aL ?_; (case aP => exact k122_mkM _ _ _ (⟨x8_4, x7_3, x6_1, t154⟩ : S122)); (case aB => exact (bl0_ HB.out)); (case aF => exact (fun _ _ => trivial)); (case aO => exact (kr_ HO_5.out)); (case aS => exact (below_size (bl0_ HB.out))); (case aL => have := LMc9.out; omega); intro v156 w10 ho hb hg hat; rw [← Ny155.out] at ho; have n0_ := Aside0.mk (hb); have n1_ := Aside0.mk (ho); clear HB; clear HO_5; have HB := n0_; have HO157 := n1_; clear n0_ n1_; clear ho hb hg hat))
             go_roundg k4
             case measure => have := HK1.out; have := HJ2.out; have := HK3.out; have := HK4.out; omega
             case rel => exact ⟨(y155), (wrap64 (x8_4 + 1)), rs_, H', ⟨by have := HK1.out; have := HJ2.out; have := HK3.out; have := HK4.out; omega⟩, ⟨kr_ HO157.out⟩, ⟨bl0_ HB.out⟩⟩
            ·rw [if_neg c9] at H
             exact absurd H (by simp)
           ·rw [if_neg c7] at H
            have c7b0 : decide ((wrap64 (x8_4 + x6_1)) ≤ a0) = false := decide_eq_false c7
            clear c7
            have H' := Aside0.mk H
            clear H
            go_wp2
            go_roundg k4
            case measure => have := HK1.out; have := HJ2.out; have := HK3.out; have := HK4.out; omega
            case rel => exact ⟨(x5_4), (wrap64 (x7_3 + 1)), rs_, H', ⟨by have := HK1.out; have := HJ2.out; have := HK3.out; have := HK4.out; omega⟩, ⟨kr_ HO_5.out⟩, ⟨bl0_ HB.out⟩⟩
        ·rw [if_neg c6] at H
         have c6b0 : decide ((wrap64 (x7_3 + x6_1)) ≤ a1) = false := decide_eq_false c6
         clear c6
         have H' := Aside0.mk H
         clear H
         go_wp2
         go_roundg k3
         case measure => have := HK1.out; have := HJ2.out; have := HK3.out; omega
         case rel => exact ⟨(x5_3), (wrap64 (x6_1 + 1)), rs_, H', ⟨by have := HK1.out; have := HJ2.out; have := HK3.out; omega⟩, ⟨kr_ HO_5.out⟩, ⟨bl0_ HB.out⟩⟩
     ·replace c5 := Bool.eq_false_iff.mpr c5
      subst c5
      have H1 : (some x5_1) = some r := by rw [if_neg (show ¬ (false = true) by decide)] at H; exact H
      clear H
      have H := H1
      clear H1
      obtain rfl := Option.some.inj H
      go_wp2
      go_ret
      exact ⟨_, er_, by (with_reducible repeat (first | apply Kd.R_alloc | apply Kd.R_drewN | apply Kd.R_drew)); exact HO_5.out, bl0_ HB.out⟩


mutual
def spec_sqMask.l0 : Nat → Int → List Int → Int → Int → Int → Int → List Int → List Int → Option (Int)
 | 0, _, _, _, _, _, _, _, _ => none
 | k + 1, x3, x9, x10, x11, x159000, x159001, x159002, x159003 => if x11 < x10 then (if 0 ≤ x11 then (if x11 < (x9.length : Int) then ((spec_sqBit.f x159000 x159001 false (rd x9 x11)).bind fun t160 => (spec_sqMask.l0 k (Go.bits .or .i64 x3 t160) x9 x10 (wrap64 (x11 + 1)) x159000 x159001 x159002 x159003)) else (none)) else (none)) else (spec_sqMask.l1 k x3 x159003 (x159003.length : Int) 0 x159000 x159001 x159002 x159003)
def spec_sqMask.l1 : Nat → Int → List Int → Int → Int → Int → Int → List Int → List Int → Option (Int)
 | 0, _, _, _, _, _, _, _, _ => none
 | k + 1, x3, x25, x26, x27, x159000, x159001, x159002, x159003 => if x27 < x26 then (if 0 ≤ x27 then (if x27 < (x25.length : Int) then ((spec_sqBit.f x159000 x159001 true (rd x25 x27)).bind fun t162 => (spec_sqMask.l1 k (Go.bits .or .i64 x3 t162) x25 x26 (wrap64 (x27 + 1)) x159000 x159001 x159002 x159003)) else (none)) else (none)) else (some x3)
end
def spec_sqMask.f (k : Nat) (a0_0 : Int) (a0_1 : Int) (l0_2 : List Int) (l0_3 : List Int) : Option (Int) := spec_sqMask.l0 k 0 l0_2 (l0_2.length : Int) 0 a0_0 a0_1 l0_2 l0_3
theorem spec_sqMask.mono_l : ∀ k, (∀ y0 y1 y2 y3 y4 y5 y6 y7, LeO (spec_sqMask.l0 k y0 y1 y2 y3 y4 y5 y6 y7) (spec_sqMask.l0 (k + 1) y0 y1 y2 y3 y4 y5 y6 y7)) ∧ (∀ y0 y1 y2 y3 y4 y5 y6 y7, LeO (spec_sqMask.l1 k y0 y1 y2 y3 y4 y5 y6 y7) (spec_sqMask.l1 (k + 1) y0 y1 y2 y3 y4 y5 y6 y7))
 | 0 => ⟨fun _ _ _ _ _ _ _ _ r h => by simp [spec_sqMask.l0] at h, fun _ _ _ _ _ _ _ _ r h => by simp [spec_sqMask.l1] at h⟩
 | k + 1 => by
  obtain ⟨ih0, ih1⟩ := spec_sqMask.mono_l k
  refine ⟨?_, ?_⟩
  ·intro y0 y1 y2 y3 y4 y5 y6 y7
   unfold spec_sqMask.l0
   repeat' first
   | (with_reducible exact ih0 _ _ _ _ _ _ _ _)
   | (with_reducible exact ih1 _ _ _ _ _ _ _ _)
   | (with_reducible exact LeO.refl _)
   | (with_reducible exact LeO.none _)
   | (with_reducible refine LeO.ite ?_ ?_)
   | (with_reducible refine LeO.bind ?_ (fun _ => ?_))
   | exact ih0 _ _ _ _ _ _ _ _
   | exact ih1 _ _ _ _ _ _ _ _
   | exact LeO.none _
   | refine LeO.ite ?_ ?_
   | refine LeO.bind ?_ (fun _ => ?_)
  ·intro y0 y1 y2 y3 y4 y5 y6 y7
   unfold spec_sqMask.l1
   repeat' first
   | (with_reducible exact ih0 _ _ _ _ _ _ _ _)
   | (with_reducible exact ih1 _ _ _ _ _ _ _ _)
   | (with_reducible exact LeO.refl _)
   | (with_reducible exact LeO.none _)
   | (with_reducible refine LeO.ite ?_ ?_)
   | (with_reducible refine LeO.bind ?_ (fun _ => ?_))
   | exact ih0 _ _ _ _ _ _ _ _
   | exact ih1 _ _ _ _ _ _ _ _
   | exact LeO.none _
   | refine LeO.ite ?_ ?_
   | refine LeO.bind ?_ (fun _ => ?_)
theorem spec_sqMask.mono : ∀ a0 a1 a2 a3 k, LeO (spec_sqMask.f k a0 a1 a2 a3) (spec_sqMask.f (k + 1) a0 a1 a2 a3) := by
 intro a0 a1 a2 a3 k
 obtain ⟨ih0, ih1⟩ := spec_sqMask.mono_l k
 unfold spec_sqMask.f
 repeat' first
   | (with_reducible exact ih0 _ _ _ _ _ _ _ _)
   | (with_reducible exact ih1 _ _ _ _ _ _ _ _)
   | (with_reducible exact LeO.refl _)
   | (with_reducible exact LeO.none _)
   | (with_reducible refine LeO.ite ?_ ?_)
   | (with_reducible refine LeO.bind ?_ (fun _ => ?_))
   | exact ih0 _ _ _ _ _ _ _ _
   | exact ih1 _ _ _ _ _ _ _ _
   | exact LeO.none _
   | refine LeO.ite ?_ ?_
   | refine LeO.bind ?_ (fun _ => ?_)
set_option maxHeartbeats 8000000 in
set_option maxRecDepth 100000 in
theorem spec_sqMask.calls (k : Nat) (a0_0 : Int) (a0_1 : Int) (A0_2 : Option Addr) (c0_2 : Nat) (l0_2 : List Int) (A0_3 : Option Addr) (c0_3 : Nat) (l0_3 : List Int) (r : Int) (w : World) (hr0_2 : Kd.C (Kd.int .i64) w A0_2 l0_2.length l0_2) (hc0_2 : l0_2.length ≤ c0_2) (hr0_3 : Kd.C (Kd.int .i64) w A0_3 l0_3.length l0_3) (hc0_3 : l0_3.length ≤ c0_3) (h : spec_sqMask.f k a0_0 a0_1 l0_2 l0_3 = some r) :
  Calls Tryd.prog 50 #[.agg #[.int .i64 a0_0, .int .i64 a0_1, .slice A0_2 l0_2.length c0_2, .slice A0_3 l0_3.length c0_3]] w fun e w' => e = .returned (.int .i64 r) ∧ Below w.heap.size w w' := by
 have hu36 := Tryd.underlying36
 have HR0_2 := Aside0.mk hr0_2
 have HC0_2 := Aside0.mk hc0_2
 clear hr0_2 hc0_2
 have HR0_3 := Aside0.mk hr0_3
 have HC0_3 := Aside0.mk hc0_3
 clear hr0_3 hc0_3
 have HB := Aside0.mk (Below.refl w.heap.size w)
 have H : (spec_sqMask.l0 k 0 l0_2 (l0_2.length : Int) 0 a0_0 a0_1 l0_2 l0_3) = some r := h
 clear h
 have H' := Aside0.mk H
 clear H
 go_enter Tryd.func50, Tryd.ntmps50
 go_wp2_with (first | ((with_reducible refine gate_dst (N := 1) rfl ?_); refine boxE_ (N := 1) (cs := #[.int .i64 a0_0, .int .i64 a0_1, .slice A0_2 l0_2.length c0_2, .slice A0_3 l0_3.length c0_3]) (t := 36) ?_; intro gb158 hg w2 hbox hb; have n0_ := Aside0.mk (below_step (bl0_ HB.out) hb); have n1_ := Aside0.mk (hbox); have n2_ := Aside0.mk ((bs0_ hg HB.out : w.heap.size ≤ gb158)); have n3_ := Aside0.mk ((bs0_ hg HB.out : w.heap.size ≤ gb158)); clear HB; have HB := n0_; have BK158 := n1_; have GW158 := n2_; have GE158 := n3_; clear n0_ n1_ n2_ n3_; clear hb hbox hg; have hcz3_0 : w2.cell? ⟨gb158, 0, none⟩ = some (.int .i64 a0_0) := (blk_cell BK158.out 0).trans rfl; have hcz3_1 : w2.cell? ⟨gb158, 1, none⟩ = some (.int .i64 a0_1) := (blk_cell BK158.out 1).trans rfl; have hcz3_2 : w2.cell? ⟨gb158, 2, none⟩ = some (.slice A0_2 l0_2.length c0_2) := (blk_cell BK158.out 2).trans rfl; have hcz3_3 : w2.cell? ⟨gb158, 3, none⟩ = some (.slice A0_3 l0_3.length c0_3) := (blk_cell BK158.out 3).trans rfl; have hfz3_0 := blk_frozen BK158.out 0; have hfz3_1 := blk_frozen BK158.out 1; have hfz3_2 := blk_frozen BK158.out 2; have hfz3_3 := blk_frozen BK158.out 3))
 go_loopg [3, 11] k (fun kq v3 v11 w' => ∃ (x3_1 : Int) (x11_1 : Int), v3 = .int .i64 x3_1 ∧ v11 = .int .i64 x11_1 ∧ Aside0 (spec_sqMask.l0 kq x3_1 l0_2 (l0_2.length : Int) x11_1 a0_0 a0_1 l0_2 l0_3 = some r) ∧ Aside0 (kq ≤ k) ∧ Aside0 (w'.heap[gb158]? = some (.cells #[.int .i64 a0_0, .int .i64 a0_1, (.slice A0_2 l0_2.length c0_2), (.slice A0_3 l0_3.length c0_3)] 36 (0, 0))) ∧ Aside0 (Below w.heap.size w w'))
 case atStart => exact ⟨(0), (0), rs_, rs_, H', ⟨Nat.le_refl _⟩, ⟨bk_ BK158.out⟩, ⟨bl1_ HB.out GE158.out⟩⟩
 case round =>
  clear H'
  try clear p2
  try clear hcz3_0
  try clear hcz3_1
  try clear hcz3_2
  try clear hcz3_3
  try clear hfz3_0
  try clear hfz3_1
  try clear hfz3_2
  try clear hfz3_3
  obtain ⟨x3_1, x11_1, rfl, rfl, HA, HK1, BK158, HB⟩ := hrel
  cases gk with
  | zero => exact absurd HA.out (by simp [spec_sqMask.l0])
  | succ k1 =>
   have H := HA.out
   clear HA
   simp only [spec_sqMask.l0] at H
   by_cases c4 : x11_1 < (l0_2.length : Int)
   ·rw [if_pos c4] at H
    have c4b0 : decide (x11_1 < (l0_2.length : Int)) = true := decide_eq_true c4
    clear c4
    by_cases c5 : 0 ≤ x11_1
    ·rw [if_pos c5] at H
     have c5b0 : decide (0 ≤ x11_1) = true := decide_eq_true c5
     clear c5
     by_cases c6 : x11_1 < (l0_2.length : Int)
     ·rw [if_pos c6] at H
      have c6b0 : decide (x11_1 < (l0_2.length : Int)) = true := decide_eq_true c6
      clear c6
      replace H := Option.bind_eq_some_iff.mp H
      obtain ⟨t160, A70, H⟩ := H
      replace H : (spec_sqMask.l0 k1 (Go.bits .or .i64 x3_1 t160) l0_2 (l0_2.length : Int) (wrap64 (x11_1 + 1)) a0_0 a0_1 l0_2 l0_3) = some r := H
      have A7 := Aside0.mk A70
      clear A70
      have H' := Aside0.mk H
      clear H
      have p159 : 0 ≤ (x11_1 : Int) := of_decide_eq_true as_
      have q159 : x11_1 < (l0_2.length : Int) := of_decide_eq_true as_
      obtain ⟨ad159, e159, hx159_0⟩ := Kd.at_int HR0_2.out x11_1 p159 q159
      cases e159
      replace hx159_0 := (HB.out.cell (World.block_lt_of_cell? w _ hx159_0)).trans hx159_0
      replace p159 := eq_true p159
      replace q159 := eq_true q159
      have hcz8_0 : wr.cell? ⟨gb158, 0, none⟩ = some (.int .i64 a0_0) := (blk_cell BK158.out 0).trans rfl
      have hcz8_1 : wr.cell? ⟨gb158, 1, none⟩ = some (.int .i64 a0_1) := (blk_cell BK158.out 1).trans rfl
      have hcz8_2 : wr.cell? ⟨gb158, 2, none⟩ = some (.slice (some ad159) l0_2.length c0_2) := (blk_cell BK158.out 2).trans rfl
      have hcz8_3 : wr.cell? ⟨gb158, 3, none⟩ = some (.slice A0_3 l0_3.length c0_3) := (blk_cell BK158.out 3).trans rfl
      have hfz8_0 := blk_frozen BK158.out 0
      have hfz8_1 := blk_frozen BK158.out 1
      have hfz8_2 := blk_frozen BK158.out 2
      have hfz8_3 := blk_frozen BK158.out 3
      go_wp2_with (first | ((with_reducible refine gate_callee (f := 97) rfl ?_); refine goesL_ (some 21) rfl rfl Tryd.func97 (by kernel_rfl) rfl #[.int .i64 a0_0, .int .i64 a0_1, .bool false, .int .i64 (rd l0_2 x11_1)] rfl ob_ ?_; (with_reducible refine (spec_sqBit.calls a0_0 a0_1 false (rd l0_2 x11_1) t160 _ A7.out).mono ?_); rintro e w' ⟨rfl, ⟨nd, rfl⟩⟩; refine ⟨_, rfl, ?_⟩))
      go_roundg k1
      case measure => have := HK1.out; omega
      case rel => exact ⟨(Go.bits .or .i64 x3_1 t160), (wrap64 (x11_1 + 1)), rs_, rs_, H', ⟨by have := HK1.out; omega⟩, ⟨bk_ BK158.out⟩, ⟨bl1_ HB.out GE158.out⟩⟩
     ·rw [if_neg c6] at H
      exact absurd H (by simp)
    ·rw [if_neg c5] at H
     exact absurd H (by simp)
   ·rw [if_neg c4] at H
    have c4b0 : decide (x11_1 < (l0_2.length : Int)) = false := decide_eq_false c4
    clear c4
    have H' := Aside0.mk H
    clear H
    have hcz9_0 : wr.cell? ⟨gb158, 0, none⟩ = some (.int .i64 a0_0) := (blk_cell BK158.out 0).trans rfl
    have hcz9_1 : wr.cell? ⟨gb158, 1, none⟩ = some (.int .i64 a0_1) := (blk_cell BK158.out 1).trans rfl
    have hcz9_2 : wr.cell? ⟨gb158, 2, none⟩ = some (.slice A0_2 l0_2.length c0_2) := (blk_cell BK158.out 2).trans rfl
    have hcz9_3 : wr.cell? ⟨gb158, 3, none⟩ = some (.slice A0_3 l0_3.length c0_3) := (blk_cell BK158.out 3).trans rfl
    have hfz9_0 := blk_frozen BK158.out 0
    have hfz9_1 := blk_frozen BK158.out 1
    have hfz9_2 := blk_frozen BK158.out 2
    have hfz9_3 := blk_frozen BK158.out 3
    go_wp2
    go_loopg [3, 27] k1 (fun kq v3 v27 w' => ∃ (x3_2 : Int) (x27_2 : Int), v3 = .int .i64 x3_2 ∧ v27 = .int .i64 x27_2 ∧ Aside0 (spec_sqMask.l1 kq x3_2 l0_3 (l0_3.length : Int) x27_2 a0_0 a0_1 l0_2 l0_3 = some r) ∧ Aside0 (kq ≤ k1) ∧ Aside0 (w'.heap[gb158]? = some (.cells #[.int .i64 a0_0, .int .i64 a0_1, (.slice A0_2 l0_2.length c0_2), (.slice A0_3 l0_3.length c0_3)] 36 (0, 0))) ∧ Aside0 (Below w.heap.size w w'))
    case atStart => exact ⟨(x3_1), (0), rs_, rs_, H', ⟨Nat.le_refl _⟩, ⟨bk_ BK158.out⟩, ⟨bl1_ HB.out GE158.out⟩⟩
    case round =>
     clear H'
     try clear p1
     try clear q1
     try clear hx1
     try clear p2
     try clear c4
     try clear c4b0
     try clear c5
     try clear c5b0
     try clear c6
     try clear c6b0
     try clear p6
     try clear c9
     try clear hcz3_0
     try clear hcz3_1
     try clear hcz3_2
     try clear hcz3_3
     try clear hcz8_0
     try clear hcz8_1
     try clear hcz8_2
     try clear hcz8_3
     try clear hcz9_0
     try clear hcz9_1
     try clear hcz9_2
     try clear hcz9_3
     try clear hfz3_0
     try clear hfz3_1
     try clear hfz3_2
     try clear hfz3_3
     try clear hfz8_0
     try clear hfz8_1
     try clear hfz8_2
     try clear hfz8_3
     try clear hfz9_0
     try clear hfz9_1
     try clear hfz9_2
     try clear hfz9_3
     try clear hx159_0
     try clear p159
     try clear p2
     try clear q159
     obtain ⟨x3_2, x27_2, rfl, rfl, HA, HK2, BK158, HB⟩ := hrel
     cases gk with
     | zero => exact absurd HA.out (by simp [spec_sqMask.l1])
     | succ k2 =>
      have H := HA.out
      clear HA
      simp only [spec_sqMask.l1] at H
      by_cases c10 : x27_2 < (l0_3.length : Int)
      ·rw [if_pos c10] at H
       have c10b0 : decide (x27_2 < (l0_3.length : Int)) = true := decide_eq_true c10
       clear c10
       by_cases c11 : 0 ≤ x27_2
       ·rw [if_pos c11] at H
        have c11b0 : decide (0 ≤ x27_2) = true := decide_eq_true c11
        clear c11
        by_cases c12 : x27_2 < (l0_3.length : Int)
        ·rw [if_pos c12] at H
         have c12b0 : decide (x27_2 < (l0_3.length : Int)) = true := decide_eq_true c12
         clear c12
         replace H := Option.bind_eq_some_iff.mp H
         obtain ⟨t162, A130, H⟩ := H
         replace H : (spec_sqMask.l1 k2 (Go.bits .or .i64 x3_2 t162) l0_3 (l0_3.length : Int) (wrap64 (x27_2 + 1)) a0_0 a0_1 l0_2 l0_3) = some r := H
         have A13 := Aside0.mk A130
         clear A130
         have H' := Aside0.mk H
         clear H
         have p161 : 0 ≤ (x27_2 : Int) := of_decide_eq_true as_
         have q161 : x27_2 < (l0_3.length : Int) := of_decide_eq_true as_
         obtain ⟨ad161, e161, hx161_0⟩ := Kd.at_int HR0_3.out x27_2 p161 q161
         cases e161
         replace hx161_0 := (HB.out.cell (World.block_lt_of_cell? w _ hx161_0)).trans hx161_0
         replace p161 := eq_true p161
         replace q161 := eq_true q161
         have hcz14_0 : wr.cell? ⟨gb158, 0, none⟩ = some (.int .i64 a0_0) := (blk_cell BK158.out 0).trans rfl
         have hcz14_1 : wr.cell? ⟨gb158, 1, none⟩ = some (.int .i64 a0_1) := (blk_cell BK158.out 1).trans rfl
         have hcz14_2 : wr.cell? ⟨gb158, 2, none⟩ = some (.slice A0_2 l0_2.length c0_2) := (blk_cell BK158.out 2).trans rfl
         have hcz14_3 : wr.cell? ⟨gb158, 3, none⟩ = some (.slice (some ad161) l0_3.length c0_3) := (blk_cell BK158.out 3).trans rfl
         have hfz14_0 := blk_frozen BK158.out 0
         have hfz14_1 := blk_frozen BK158.out 1
         have hfz14_2 := blk_frozen BK158.out 2
         have hfz14_3 := blk_frozen BK158.out 3
         go_wp2_with (first | ((with_reducible refine gate_callee (f := 97) rfl ?_); refine goesL_ (some 37) rfl rfl Tryd.func97 (by kernel_rfl) rfl #[.int .i64 a0_0, .int .i64 a0_1, .bool true, .int .i64 (rd l0_3 x27_2)] rfl ob_ ?_; (with_reducible refine (spec_sqBit.calls a0_0 a0_1 true (rd l0_3 x27_2) t162 _ A13.out).mono ?_); rintro e w' ⟨rfl, ⟨nd, rfl⟩⟩; refine ⟨_, rfl, ?_⟩))
         go_roundg k2
         case measure => have := HK1.out; have := HK2.out; omega
         case rel => exact ⟨(Go.bits .or .i64 x3_2 t162), (wrap64 (x27_2 + 1)), rs_, rs_, H', ⟨by have := HK1.out; have := HK2.out; omega⟩, ⟨bk_ BK158.out⟩, ⟨bl1_ HB.out GE158.out⟩⟩
        ·rw [if_neg c12] at H
         exact absurd H (by simp)
       ·rw [if_neg c11] at H
        exact absurd H (by simp)
      ·rw [if_neg c10] at H
       have c10b0 : decide (x27_2 < (l0_3.length : Int)) = false := decide_eq_false c10
       clear c10
       obtain rfl := Option.some.inj H
       go_wp2
       go_ret
       exact ⟨er_, bl1_ HB.out GE158.out⟩


def spec_FewestToTake.f (k : Nat) (a0_0 : Int) (a0_1 : Int) (l0_2 : List Int) (l0_3 : List Int) : Option (Int × Bool) := (spec_sqFew.f k a0_0 a0_1 l0_2 l0_3).bind fun t164 => (if t164 = true then ((spec_sqAll.f k a0_0 a0_1).bind fun t165 => ((spec_sqMask.f k a0_0 a0_1 l0_2 l0_3).bind fun t168 => ((spec_sqFewest.f k t165 t168).bind fun t169 => (some (t169, true))))) else (some (0, false)))
theorem spec_FewestToTake.mono : ∀ a0 a1 a2 a3 k, LeO (spec_FewestToTake.f k a0 a1 a2 a3) (spec_FewestToTake.f (k + 1) a0 a1 a2 a3) := by
 intro a0 a1 a2 a3 k
 unfold spec_FewestToTake.f
 repeat' first
   | (with_reducible exact spec_sqAll.mono _ _ _)
   | (with_reducible exact spec_sqFew.mono _ _ _ _ _)
   | (with_reducible exact spec_sqFewest.mono _ _ _)
   | (with_reducible exact spec_sqMask.mono _ _ _ _ _)
   | (with_reducible exact LeO.refl _)
   | (with_reducible exact LeO.none _)
   | (with_reducible refine LeO.ite ?_ ?_)
   | (with_reducible refine LeO.bind ?_ (fun _ => ?_))
   | exact spec_sqAll.mono _ _ _
   | exact spec_sqFew.mono _ _ _ _ _
   | exact spec_sqFewest.mono _ _ _
   | exact spec_sqMask.mono _ _ _ _ _
   | exact LeO.none _
   | refine LeO.ite ?_ ?_
   | refine LeO.bind ?_ (fun _ => ?_)
def spec_FewestToTake.T3 : Bool × List (List Nat × List Nat) := (true, [([], []), ([0], [0]), ([], []), ([2], [2]), ([1, 3], [1, 3]), ([], []), ([5, 4], [5]), ([4, 6, 6], [4, 6]), ([7, 7, 0, 1, 2, 3, 4, 5, 6, 7], [7]), ([8, 0, 1, 2, 3, 4, 5, 6, 7, 8], [])])
def spec_FewestToTake.B3 : List Nat := [0, 1, 0, 4, 15, 0, 63, 127, 255, 511]
theorem spec_FewestToTake.tab3 : rtab .any (opsOf Tryd.f19 3) = spec_FewestToTake.T3 := by kernel_rfl
theorem spec_FewestToTake.bits3 : waitsOk spec_FewestToTake.T3.2 spec_FewestToTake.B3 = true := by kernel_rfl
set_option maxHeartbeats 8000000 in
set_option maxRecDepth 100000 in
theorem spec_FewestToTake.calls (k : Nat) (a0_0 : Int) (a0_1 : Int) (A0_2 : Option Addr) (c0_2 : Nat) (l0_2 : List Int) (A0_3 : Option Addr) (c0_3 : Nat) (l0_3 : List Int) (r1 : Int) (r2 : Bool) (w : World) (hr0_2 : Kd.C (Kd.int .i64) w A0_2 l0_2.length l0_2) (hc0_2 : l0_2.length ≤ c0_2) (hr0_3 : Kd.C (Kd.int .i64) w A0_3 l0_3.length l0_3) (hc0_3 : l0_3.length ≤ c0_3) (h : spec_FewestToTake.f k a0_0 a0_1 l0_2 l0_3 = some (r1, r2)) :
  Calls Tryd.prog 19 #[.agg #[.int .i64 a0_0, .int .i64 a0_1, .slice A0_2 l0_2.length c0_2, .slice A0_3 l0_3.length c0_3]] w fun e w' => e = .returned (.tuple #[.int .i64 r1, .bool r2]) ∧ Below w.heap.size w w' := by
 have hu36 := Tryd.underlying36
 have HR0_2 := Aside0.mk hr0_2
 have HC0_2 := Aside0.mk hc0_2
 clear hr0_2 hc0_2
 have HR0_3 := Aside0.mk hr0_3
 have HC0_3 := Aside0.mk hc0_3
 clear hr0_3 hc0_3
 have HB := Aside0.mk (Below.refl w.heap.size w)
 have H : ((spec_sqFew.f k a0_0 a0_1 l0_2 l0_3).bind fun t164 => (if t164 = true then ((spec_sqAll.f k a0_0 a0_1).bind fun t165 => ((spec_sqMask.f k a0_0 a0_1 l0_2 l0_3).bind fun t168 => ((spec_sqFewest.f k t165 t168).bind fun t169 => (some (t169, true))))) else (some (0, false)))) = some (r1, r2) := h
 clear h
 replace H := Option.bind_eq_some_iff.mp H
 obtain ⟨t164, A20, H⟩ := H
 replace H : (if t164 = true then ((spec_sqAll.f k a0_0 a0_1).bind fun t165 => ((spec_sqMask.f k a0_0 a0_1 l0_2 l0_3).bind fun t168 => ((spec_sqFewest.f k t165 t168).bind fun t169 => (some (t169, true))))) else (some (0, false))) = some (r1, r2) := H
 have A2 := Aside0.mk A20
 clear A20
 by_cases c3 : t164 = true
 ·subst c3
  have H1 : ((spec_sqAll.f k a0_0 a0_1).bind fun t165 => ((spec_sqMask.f k a0_0 a0_1 l0_2 l0_3).bind fun t168 => ((spec_sqFewest.f k t165 t168).bind fun t169 => (some (t169, true))))) = some (r1, r2) := by rw [if_pos rfl] at H; exact H
  clear H
  have H := H1
  clear H1
  replace H := Option.bind_eq_some_iff.mp H
  obtain ⟨t165, A40, H⟩ := H
  replace H : ((spec_sqMask.f k a0_0 a0_1 l0_2 l0_3).bind fun t168 => ((spec_sqFewest.f k t165 t168).bind fun t169 => (some (t169, true)))) = some (r1, r2) := H
  have A4 := Aside0.mk A40
  clear A40
  replace H := Option.bind_eq_some_iff.mp H
  obtain ⟨t168, A50, H⟩ := H
  replace H : ((spec_sqFewest.f k t165 t168).bind fun t169 => (some (t169, true))) = some (r1, r2) := H
  have A5 := Aside0.mk A50
  clear A50
  replace H := Option.bind_eq_some_iff.mp H
  obtain ⟨t169, A60, H⟩ := H
  replace H : (some (t169, true)) = some (r1, r2) := H
  have A6 := Aside0.mk A60
  clear A60
  simp only [Option.some.injEq, Prod.mk.injEq] at H
  obtain ⟨rfl, rfl⟩ := H
  go_enter Tryd.func19, Tryd.ntmps19
  try go_wp2_with (first | ((with_reducible refine gate_dst (N := 1) rfl ?_); refine boxE_ (N := 1) (cs := #[.int .i64 a0_0, .int .i64 a0_1, .slice A0_2 l0_2.length c0_2, .slice A0_3 l0_3.length c0_3]) (t := 36) ?_; intro gb163 hg w7 hbox hb; have n0_ := Aside0.mk (below_step (bl0_ HB.out) hb); have n1_ := Aside0.mk (hbox); have n2_ := Aside0.mk ((bs0_ hg HB.out : w.heap.size ≤ gb163)); have n3_ := Aside0.mk ((bs0_ hg HB.out : w.heap.size ≤ gb163)); clear HB; have HB := n0_; have BK163 := n1_; have GW163 := n2_; have GE163 := n3_; clear n0_ n1_ n2_ n3_; clear hb hbox hg; have hcz8_0 : w7.cell? ⟨gb163, 0, none⟩ = some (.int .i64 a0_0) := (blk_cell BK163.out 0).trans rfl; have hcz8_1 : w7.cell? ⟨gb163, 1, none⟩ = some (.int .i64 a0_1) := (blk_cell BK163.out 1).trans rfl; have hcz8_2 : w7.cell? ⟨gb163, 2, none⟩ = some (.slice A0_2 l0_2.length c0_2) := (blk_cell BK163.out 2).trans rfl; have hcz8_3 : w7.cell? ⟨gb163, 3, none⟩ = some (.slice A0_3 l0_3.length c0_3) := (blk_cell BK163.out 3).trans rfl; have hfz8_0 := blk_frozen BK163.out 0; have hfz8_1 := blk_frozen BK163.out 1; have hfz8_2 := blk_frozen BK163.out 2; have hfz8_3 := blk_frozen BK163.out 3) | ((with_reducible refine gate_callee (f := 44) rfl ?_); refine goesL_ (some 5) rfl rfl Tryd.func44 (by kernel_rfl) rfl #[.agg #[.int .i64 a0_0, .int .i64 a0_1, .slice A0_2 l0_2.length c0_2, .slice A0_3 l0_3.length c0_3]] rfl ob_ ?_; (with_reducible refine (spec_sqFew.calls k a0_0 a0_1 _ _ l0_2 _ _ l0_3 true _ ?side1 ?side2 ?side3 ?side4 A2.out).mono ?_); (case side1 => exact kc_ (Kd.C_below HR0_2.out HB.out)); (case side2 => exact HC0_2.out); (case side3 => exact kc_ (Kd.C_below HR0_3.out HB.out)); (case side4 => exact HC0_3.out); rintro e w9 ⟨rfl, hb⟩; refine ⟨_, rfl, ?_⟩; have n0_ := Aside0.mk (bb_ BK163.out hb); have n1_ := Aside0.mk (below_step (bl1_ HB.out GE163.out) hb); clear BK163; clear HB; have BK163 := n0_; have HB := n1_; clear n0_ n1_; (try clear hb); (try clear hb2); (try clear hk); (try clear hi)))
  have n0_ := Aside0.mk (blk_drew BK163.out)
  have n1_ := Aside0.mk (below_drew1 HB.out)
  clear BK163
  clear HB
  have BK163 := n0_
  have HB := n1_
  clear n0_ n1_
  refine start_ (n := 10) (S := fun w' => w'.cell? ⟨gb163, 0, none⟩ = some (.int .i64 a0_0) ∧ w'.cell? ⟨gb163, 1, none⟩ = some (.int .i64 a0_1) ∧ w'.cell? ⟨gb163, 2, none⟩ = some (.slice A0_2 l0_2.length c0_2) ∧ w'.cell? ⟨gb163, 3, none⟩ = some (.slice A0_3 l0_3.length c0_3)) (ds := []) #[false, false, false, false, false, false, false, false, false, false] (by kernel_rfl) rfl rfl ⟨(blk_cell BK163.out 0).trans rfl, (blk_cell BK163.out 1).trans rfl, (blk_cell BK163.out 2).trans rfl, (blk_cell BK163.out 3).trans rfl⟩ (fun hHeld => ?_); refine with_tabW spec_FewestToTake.tab3 spec_FewestToTake.bits3 (fun HT_ HW_ => ?_)
  generalize w9.drew = w10 at BK163 HB hHeld ⊢
  refine pure_ (i := 0) (N := some 7) (v := ?_) (a' := ?_) #[true, false, false, false, false, false, false, false, false, false] rfl rfl (any_of HT_.out (by kernel_rfl)) (fun _ _ _ h => h) (Or.inl ⟨by rfl, ?_⟩) ?_ ?_
  rotate_left
  ·intro w'
   go_simp
   with_reducible rfl
  rotate_left
  ·simp only [Act.put, List.setIfInBounds_toArray, List.set_cons_zero, List.set_cons_succ, i64_w, i32_w]
   rfl
  refine pure_ (i := 2) (N := some 9) (v := ?_) (a' := ?_) #[true, false, true, false, false, false, false, false, false, false] rfl rfl (any_of HT_.out (by kernel_rfl)) (fun _ _ _ h => h) (Or.inl ⟨by rfl, ?_⟩) ?_ ?_
  rotate_left
  ·intro w'
   go_simp
   with_reducible rfl
  rotate_left
  ·simp only [Act.put, List.setIfInBounds_toArray, List.set_cons_zero, List.set_cons_succ, i64_w, i32_w]
   rfl
  refine take_ (i := 1) (N := some 8) (v := ?_) (a' := ?_) #[true, true, true, false, false, false, false, false, false, false] rfl rfl (take_ofW HT_.out HW_.out (by kernel_rfl)) (fun _ _ _ h => h) (Or.inl ⟨by rfl, ?_⟩) hHeld ?_ ?_
  rotate_left
  ·rintro w' ⟨s0, s1, s2, s3⟩
   go_simp
   with_reducible rfl
  rotate_left
  ·simp only [Act.put, List.setIfInBounds_toArray, List.set_cons_zero, List.set_cons_succ, i64_w, i32_w]
   rfl
  refine take_ (i := 3) (N := some 10) (v := ?_) (a' := ?_) #[true, true, true, true, false, false, false, false, false, false] rfl rfl (take_ofW HT_.out HW_.out (by kernel_rfl)) (fun _ _ _ h => h) (Or.inl ⟨by rfl, ?_⟩) hHeld ?_ ?_
  rotate_left
  ·rintro w' ⟨s0, s1, s2, s3⟩
   go_simp
   with_reducible rfl
  rotate_left
  ·simp only [Act.put, List.setIfInBounds_toArray, List.set_cons_zero, List.set_cons_succ, i64_w, i32_w]
   rfl
  refine take_ (i := 5) (N := some 12) (v := ?_) (a' := ?_) #[true, true, true, true, false, true, false, false, false, false] rfl rfl (take_ofW HT_.out HW_.out (by kernel_rfl)) (fun _ _ _ h => h) (Or.inl ⟨by rfl, ?_⟩) hHeld ?_ ?_
  rotate_left
  ·rintro w' ⟨s0, s1, s2, s3⟩
   go_simp
   with_reducible rfl
  rotate_left
  ·simp only [Act.put, List.setIfInBounds_toArray, List.set_cons_zero, List.set_cons_succ, i64_w, i32_w]
   rfl
  refine one_ (i := 4) (N := some 11) #[true, true, true, true, true, true, false, false, false, false] rfl rfl (one_of HT_.out (by kernel_rfl)) (by decide) (fun K hK => ?_)
  refine goes_ Tryd.func49 (by kernel_rfl) rfl #[.int .i64 a0_0, .int .i64 a0_1] (by rfl) rfl rfl ob_ ?_
  with_reducible refine (spec_sqAll.calls k a0_0 a0_1 t165 _ A4.out).mono ?_
  rintro e w11 ⟨v166, rfl, ho0, hb⟩
  refine ⟨_, rfl, ?_⟩
  have n0_ := Aside0.mk (Kd.R_lower ho0 (below_size (bl1_ HB.out GE163.out)))
  have n1_ := Aside0.mk (bb_ BK163.out hb)
  have n2_ := Aside0.mk (below_step (bl1_ HB.out GE163.out) hb)
  clear BK163
  clear HB
  have HO167 := n0_
  have BK163 := n1_
  have HB := n2_
  clear n0_ n1_ n2_
  (try clear hb)
  (try clear hb2)
  (try clear hk)
  (try clear hi)
  (try clear ho0)
  refine hK.out _ _ ⟨(blk_cell BK163.out 0).trans rfl, (blk_cell BK163.out 1).trans rfl, (blk_cell BK163.out 2).trans rfl, (blk_cell BK163.out 3).trans rfl⟩ (fun hHeld => ?_)
  clear hK K
  refine norm_ (a' := ?_) ?_ ?_
  rotate_left
  ·show Act.put _ (some 11) _ = _
   simp only [Act.put, List.setIfInBounds_toArray, List.set_cons_zero, List.set_cons_succ, i64_w, i32_w]
   rfl
  refine one_ (i := 6) (N := some 13) #[true, true, true, true, true, true, true, false, false, false] rfl rfl (one_of HT_.out (by kernel_rfl)) (by decide) (fun K hK => ?_)
  refine goes_ Tryd.func50 (by kernel_rfl) rfl #[.agg #[.int .i64 a0_0, .int .i64 a0_1, .slice A0_2 l0_2.length c0_2, .slice A0_3 l0_3.length c0_3]] (by rfl) rfl rfl ob_ ?_
  with_reducible refine (spec_sqMask.calls k a0_0 a0_1 _ _ l0_2 _ _ l0_3 t168 _ ?side1 ?side2 ?side3 ?side4 A5.out).mono ?_
  (case side1 => exact kc_ (Kd.C_below HR0_2.out HB.out))
  (case side2 => exact HC0_2.out)
  (case side3 => exact kc_ (Kd.C_below HR0_3.out HB.out))
  (case side4 => exact HC0_3.out)
  rintro e w12 ⟨rfl, hb⟩
  refine ⟨_, rfl, ?_⟩
  have n0_ := Aside0.mk (Kd.R_below (kr_ HO167.out) hb)
  have n1_ := Aside0.mk (bb_ BK163.out hb)
  have n2_ := Aside0.mk (below_step (bl1_ HB.out GE163.out) hb)
  clear HO167
  clear BK163
  clear HB
  have HO167 := n0_
  have BK163 := n1_
  have HB := n2_
  clear n0_ n1_ n2_
  (try clear hb)
  (try clear hb2)
  (try clear hk)
  (try clear hi)
  obtain ⟨Ao13, co13, eo13⟩ := Kd.R_slice HO167.out
  (first | subst eo13 | (injection eo13 with f1_ f2_ f3_; have f4_ := f1_.symm; have f5_ := f3_.symm; clear f1_ f2_ f3_; subst f4_; subst f5_))
  refine hK.out _ _ ⟨(blk_cell BK163.out 0).trans rfl, (blk_cell BK163.out 1).trans rfl, (blk_cell BK163.out 2).trans rfl, (blk_cell BK163.out 3).trans rfl⟩ (fun hHeld => ?_)
  clear hK K
  refine norm_ (a' := ?_) ?_ ?_
  rotate_left
  ·show Act.put _ (some 13) _ = _
   simp only [Act.put, List.setIfInBounds_toArray, List.set_cons_zero, List.set_cons_succ, i64_w, i32_w]
   rfl
  refine one_ (i := 7) (N := some 14) #[true, true, true, true, true, true, true, true, false, false] rfl rfl (one_of HT_.out (by kernel_rfl)) (by decide) (fun K hK => ?_)
  refine goes_ Tryd.func48 (by kernel_rfl) rfl #[.slice Ao13 t165.length co13, .int .i64 t168] (by rfl) rfl rfl ob_ ?_
  with_reducible refine (spec_sqFewest.calls k _ _ t165 t168 t169 _ ?side1 ?side2 A6.out).mono ?_
  (case side1 => repeat (first | exact (Kd.R_reads' HO167.out).2.2 | (with_reducible refine Kd.C_alloc ?_ _) | (with_reducible refine Kd.C_drewN ?_ _) | (with_reducible refine Kd.C_drew ?_)))
  (case side2 => exact (Kd.R_reads' HO167.out).2.1)
  rintro e w14 ⟨rfl, hb⟩
  refine ⟨_, rfl, ?_⟩
  have n0_ := Aside0.mk (Kd.R_below (kr_ HO167.out) hb)
  have n1_ := Aside0.mk (bb_ BK163.out hb)
  have n2_ := Aside0.mk (below_step (bl1_ HB.out GE163.out) hb)
  clear HO167
  clear BK163
  clear HB
  have HO167 := n0_
  have BK163 := n1_
  have HB := n2_
  clear n0_ n1_ n2_
  (try clear hb)
  (try clear hb2)
  (try clear hk)
  (try clear hi)
  refine hK.out _ _ ⟨(blk_cell BK163.out 0).trans rfl, (blk_cell BK163.out 1).trans rfl, (blk_cell BK163.out 2).trans rfl, (blk_cell BK163.out 3).trans rfl⟩ (fun hHeld => ?_)
  clear hK K
  refine norm_ (a' := ?_) ?_ ?_
  rotate_left
  ·show Act.put _ (some 14) _ = _
   simp only [Act.put, List.setIfInBounds_toArray, List.set_cons_zero, List.set_cons_succ, i64_w, i32_w]
   rfl
  refine pure_ (i := 8) (N := some 2) (v := ?_) (a' := ?_) #[true, true, true, true, true, true, true, true, true, false] rfl rfl (any_of HT_.out (by kernel_rfl)) (fun _ _ _ h => h) (Or.inl ⟨by rfl, ?_⟩) ?_ ?_
  rotate_left
  ·intro w'
   go_simp
   with_reducible rfl
  rotate_left
  ·simp only [Act.put, List.setIfInBounds_toArray, List.set_cons_zero, List.set_cons_succ, i64_w, i32_w]
   rfl
  refine pure_ (i := 9) (N := some 3) (v := ?_) (a' := ?_) #[true, true, true, true, true, true, true, true, true, true] rfl rfl (any_of HT_.out (by kernel_rfl)) (fun _ _ _ h => h) (Or.inl ⟨by rfl, ?_⟩) ?_ ?_
  rotate_left
  ·intro w'
   go_simp
   with_reducible rfl
  rotate_left
  ·simp only [Act.put, List.setIfInBounds_toArray, List.set_cons_zero, List.set_cons_succ, i64_w, i32_w]
   rfl
  refine done_ (done_of HT_.out (by kernel_rfl)) ?_
  try go_wp2
  go_ret2
  exact ⟨er_, bl1_ HB.out GE163.out⟩
 ·replace c3 := Bool.eq_false_iff.mpr c3
  subst c3
  have H1 : (some (0, false)) = some (r1, r2) := by rw [if_neg (show ¬ (false = true) by decide)] at H; exact H
  clear H
  have H := H1
  clear H1
  simp only [Option.some.injEq, Prod.mk.injEq] at H
  obtain ⟨rfl, rfl⟩ := H
  go_enter Tryd.func19, Tryd.ntmps19
  go_wp2_with (first | ((with_reducible refine gate_dst (N := 1) rfl ?_); refine boxE_ (N := 1) (cs := #[.int .i64 a0_0, .int .i64 a0_1, .slice A0_2 l0_2.length c0_2, .slice A0_3 l0_3.length c0_3]) (t := 36) ?_; intro gb163 hg w15 hbox hb; have n0_ := Aside0.mk (below_step (bl0_ HB.out) hb); have n1_ := Aside0.mk (hbox); have n2_ := Aside0.mk ((bs0_ hg HB.out : w.heap.size ≤ gb163)); have n3_ := Aside0.mk ((bs0_ hg HB.out : w.heap.size ≤ gb163)); clear HB; have HB := n0_; have BK163 := n1_; have GW163 := n2_; have GE163 := n3_; clear n0_ n1_ n2_ n3_; clear hb hbox hg; have hcz16_0 : w15.cell? ⟨gb163, 0, none⟩ = some (.int .i64 a0_0) := (blk_cell BK163.out 0).trans rfl; have hcz16_1 : w15.cell? ⟨gb163, 1, none⟩ = some (.int .i64 a0_1) := (blk_cell BK163.out 1).trans rfl; have hcz16_2 : w15.cell? ⟨gb163, 2, none⟩ = some (.slice A0_2 l0_2.length c0_2) := (blk_cell BK163.out 2).trans rfl; have hcz16_3 : w15.cell? ⟨gb163, 3, none⟩ = some (.slice A0_3 l0_3.length c0_3) := (blk_cell BK163.out 3).trans rfl; have hfz16_0 := blk_frozen BK163.out 0; have hfz16_1 := blk_frozen BK163.out 1; have hfz16_2 := blk_frozen BK163.out 2; have hfz16_3 := blk_frozen BK163.out 3) | ((with_reducible refine gate_callee (f := 44) rfl ?_); refine goesL_ (some 5) rfl rfl Tryd.func44 (by kernel_rfl) rfl #[.agg #[.int .i64 a0_0, .int .i64 a0_1, .slice A0_2 l0_2.length c0_2, .slice A0_3 l0_3.length c0_3]] rfl ob_ ?_; (with_reducible refine (spec_sqFew.calls k a0_0 a0_1 _ _ l0_2 _ _ l0_3 false _ ?side1 ?side2 ?side3 ?side4 A2.out).mono ?_); (case side1 => exact kc_ (Kd.C_below HR0_2.out HB.out)); (case side2 => exact HC0_2.out); (case side3 => exact kc_ (Kd.C_below HR0_3.out HB.out)); (case side4 => exact HC0_3.out); rintro e w17 ⟨rfl, hb⟩; refine ⟨_, rfl, ?_⟩; have n0_ := Aside0.mk (bb_ BK163.out hb); have n1_ := Aside0.mk (below_step (bl1_ HB.out GE163.out) hb); clear BK163; clear HB; have BK163 := n0_; have HB := n1_; clear n0_ n1_; (try clear hb); (try clear hb2); (try clear hk); (try clear hi)))
  go_ret2
  exact ⟨er_, bl1_ HB.out GE163.out⟩


theorem least_le (P : Nat → Prop) : ∀ n, (∃ i, i ≤ n ∧ P i) → ∃ K, K ≤ n ∧ P K ∧ ∀ j, j < K → ¬ P j
  | 0, ⟨i, hi, h⟩ => by
    obtain rfl : i = 0 := by omega
    exact ⟨0, Nat.le_refl _, h, fun j hj => absurd hj (Nat.not_lt_zero j)⟩
  | n + 1, ⟨i, hi, h⟩ => by
    by_cases hn : ∃ j, j ≤ n ∧ P j
    · obtain ⟨K, h1, h2, h3⟩ := least_le P n hn
      exact ⟨K, by omega, h2, h3⟩
    · have e : i = n + 1 := by
        rcases Nat.lt_or_ge i (n + 1) with h4 | h4
        · exact absurd ⟨i, by omega, h⟩ hn
        · omega
      rw [e] at h
      exact ⟨n + 1, Nat.le_refl _, h, fun j hj hp => hn ⟨j, by omega, hp⟩⟩
theorem hitW_some {Ls : List Nat} (hL : ∀ s ∈ Ls, s ≠ 0 ∧ s < 2 ^ 60) : ∀ (m ch : Nat), ch < 2 ^ 60 → 60 ≤ popB 60 ch + m → hitW Ls m ch ≠ [] := by
  intro m
  induction m with
  | zero =>
    intro ch hc hp
    rcases hm : missF Ls ch with _ | s
    · rw [hitW_none hm]; simp
    · exfalso
      obtain ⟨h0, h60⟩ := hL s (missF_mem hm)
      obtain ⟨q1, q2, -⟩ := low_bits s h0 h60
      have := popB_or 60 ch _ q1 (free_bit (missF_free hm) q2)
      have := popB_le 60 (ch ||| 2 ^ Lib.ctz 64 s)
      omega
  | succ m ih =>
    intro ch hc hp
    rcases hm : missF Ls ch with _ | s
    · rw [hitW_none hm]; simp
    · obtain ⟨h0, h60⟩ := hL s (missF_mem hm)
      obtain ⟨q1, q2, -⟩ := low_bits s h0 h60
      have h1 := popB_or 60 ch _ q1 (free_bit (missF_free hm) q2)
      have h2 := ih (ch ||| 2 ^ Lib.ctz 64 s) (Nat.or_lt_two_pow hc (pow_lt60 q1)) (by omega)
      rw [hitW_succ hm]
      intro h3
      rw [List.flatMap_eq_nil_iff] at h3
      have h4 := h3 ((Lib.ctz 64 s : Nat) : Int) (by unfold bitsI; rw [bitsN_step s h0 h60]; simp)
      rw [Int.toNat_natCast] at h4
      exact h2 h4
theorem hitW_least {Ls : List Nat} (hL : ∀ s ∈ Ls, s ≠ 0 ∧ s < 2 ^ 60) : ∃ K, K ≤ 60 ∧ hitW Ls K 0 ≠ [] ∧ ∀ j, j < K → hitW Ls j 0 = [] := by
  obtain ⟨K, h1, h2, h3⟩ := least_le (fun m => hitW Ls m 0 ≠ []) 60 ⟨60, Nat.le_refl _, hitW_some hL 60 0 (by decide) (by rw [popB_zero]; omega)⟩
  exact ⟨K, h1, h2, fun j hj => Decidable.byContradiction fun h => h3 j hj h⟩


def diffN (s g : Nat) : Nat := s ^^^ (s &&& g)
theorem diffN_test (s g i : Nat) : (diffN s g).testBit i = (s.testBit i && !g.testBit i) := by
  unfold diffN; rw [Nat.testBit_xor, Nat.testBit_and]; cases s.testBit i <;> cases g.testBit i <;> rfl
theorem diffN_lt {s : Nat} (g : Nat) {n : Nat} (h : s < 2 ^ n) : diffN s g < 2 ^ n := Nat.xor_lt_two_pow h (Nat.lt_of_le_of_lt Nat.and_le_left h)
theorem andNot_u64 (s g : Nat) (hs : s < 2 ^ 60) (hg : g < 2 ^ 60) : bits .andNot .u64 (s : Int) (g : Int) = ((diffN s g : Nat) : Int) := by
  have h1 : (BitVec.ofInt 64 (s : Int)).toNat = s := by
    rw [BitVec.ofInt_natCast, BitVec.toNat_ofNat]; exact Nat.mod_eq_of_lt (by omega)
  have h2 : (BitVec.ofInt 64 (g : Int)).toNat = g := by
    rw [BitVec.ofInt_natCast, BitVec.toNat_ofNat]; exact Nat.mod_eq_of_lt (by omega)
  have h3 : s &&& (2 ^ 64 - (g + 1)) = diffN s g := by
    apply Nat.eq_of_testBit_eq
    intro i
    rw [Nat.testBit_and, Nat.testBit_two_pow_sub_succ (by omega), diffN_test]
    rcases Nat.lt_or_ge i 64 with h | h
    · simp [h]
    · rw [Nat.testBit_lt_two_pow (Nat.lt_of_lt_of_le hs (Nat.pow_le_pow_right (by omega) (by omega)))]; simp
  have hd := diffN_lt g hs
  show IntKind.u64.wrap ((BitVec.ofInt 64 (s : Int) &&& ~~~ BitVec.ofInt 64 (g : Int)).toNat : Int) = _
  rw [BitVec.toNat_and, BitVec.toNat_not, h1, h2, show 2 ^ 64 - 1 - g = 2 ^ 64 - (g + 1) by omega, h3]
  exact u64_small _ (Int.natCast_nonneg _) (by exact_mod_cast hd)
theorem andNot_i64 (s g : Nat) (hs : s < 2 ^ 60) (hg : g < 2 ^ 60) : Go.bits .andNot .i64 (s : Int) (g : Int) = ((diffN s g : Nat) : Int) := by
  have h1 : (BitVec.ofInt 64 (s : Int)).toNat = s := by
    rw [BitVec.ofInt_natCast, BitVec.toNat_ofNat]; exact Nat.mod_eq_of_lt (by omega)
  have h2 : (BitVec.ofInt 64 (g : Int)).toNat = g := by
    rw [BitVec.ofInt_natCast, BitVec.toNat_ofNat]; exact Nat.mod_eq_of_lt (by omega)
  have h3 : s &&& (2 ^ 64 - (g + 1)) = diffN s g := by
    apply Nat.eq_of_testBit_eq
    intro i
    rw [Nat.testBit_and, Nat.testBit_two_pow_sub_succ (by omega), diffN_test]
    rcases Nat.lt_or_ge i 64 with h | h
    · simp [h]
    · rw [Nat.testBit_lt_two_pow (Nat.lt_of_lt_of_le hs (Nat.pow_le_pow_right (by omega) (by omega)))]; simp
  have hd := diffN_lt g hs
  show IntKind.i64.wrap ((BitVec.ofInt 64 (s : Int) &&& ~~~ BitVec.ofInt 64 (g : Int)).toNat : Int) = _
  rw [BitVec.toNat_and, BitVec.toNat_not, h1, h2, show 2 ^ 64 - 1 - g = 2 ^ 64 - (g + 1) by omega, h3]
  exact i64_small _ (Int.natCast_nonneg _) (by exact_mod_cast hd)


theorem sqBit_f (w h : Int) (up : Bool) (n : Nat) (hw : wrap64 (w * wrap64 (h + 1)) = w * (h + 1)) (h0 : 0 ≤ w * (h + 1)) (h1 : w * (h + 1) ≤ 20) (hn : n ≤ 20) : spec_sqBit.f w h up (n : Int) = some ((2 ^ ((if up then (w * (h + 1)).toNat else 0) + n) : Nat) : Int) := by
 unfold spec_sqBit.f
 cases up with
 | false =>
  rw [if_neg (by simp), if_pos (by omega), shl_i64 n (by omega)]
  simp
 | true =>
  have e3 : wrap64 (w * (h + 1) + (n : Int)) = (((w * (h + 1)).toNat + n : Nat) : Int) := by unfold wrap64; omega
  rw [if_pos rfl, hw, e3, if_pos (by omega), shl_i64 _ (by omega)]
  rfl
theorem sqMask_l1 (w h : Int) (a u : List Int) (hL : u.length ≤ 4000000) (hw : wrap64 (w * wrap64 (h + 1)) = w * (h + 1)) (h0 : 0 ≤ w * (h + 1)) (h1 : w * (h + 1) ≤ 20) (hu : ∀ k ∈ u, 0 ≤ k ∧ k ≤ 20) : ∀ (d k i : Nat) (m : Nat), u.length - i = d → i ≤ u.length → d < k → m < 2 ^ 60 →
  spec_sqMask.l1 k (m : Int) u (u.length : Int) (i : Int) w h a u = some ((bitsFrom (w * (h + 1)).toNat (u.drop i) m : Nat) : Int) := by
 intro d
 induction d with
 | zero =>
  intro k i m h2 h3 h4 h5
  obtain ⟨k, rfl⟩ : ∃ q, k = q + 1 := ⟨k - 1, by omega⟩
  simp only [spec_sqMask.l1]
  rw [if_neg (by omega), List.drop_of_length_le (by omega)]
  rfl
 | succ d ih =>
  intro k i m h2 h3 h4 h5
  obtain ⟨k, rfl⟩ : ∃ q, k = q + 1 := ⟨k - 1, by omega⟩
  have hi : i < u.length := by omega
  have hk := hu u[i] (List.getElem_mem hi)
  have e2 : wrap64 ((i : Int) + 1) = ((i + 1 : Nat) : Int) := by unfold wrap64; omega
  have hr := rd_nat u i hi
  have hd := List.drop_eq_getElem_cons hi
  have c1 : (i : Int) < (u.length : Int) := Int.ofNat_lt.2 hi
  have c2 : (0 : Int) ≤ (i : Int) := Int.natCast_nonneg _
  have n1 : u.length - (i + 1) = d := by clear hk hr hd c1 c2 ih h5 hw h0 h1 hu; omega
  have n3 : d < k := by clear hk hr hd c1 c2 ih h5 hw h0 h1 hu; omega
  have hih := fun m hm => ih k (i + 1) m n1 hi n3 hm
  generalize u[i] = x at hk hr hd
  obtain ⟨y, rfl⟩ : ∃ y : Nat, x = (y : Int) := ⟨x.toNat, (Int.toNat_of_nonneg hk.1).symm⟩
  have hy20 : y ≤ 20 := by have := hk.2; clear hr hd c1 c2 ih h5 hw h0 h1 hu hih; omega
  have hlt : (w * (h + 1)).toNat + y < 60 := by clear hr hd c1 c2 ih h5 hw hu hih hk; omega
  simp only [spec_sqMask.l1]
  rw [if_pos c1, if_pos c2, if_pos c1, hr, sqBit_f w h true y hw h0 h1 hy20, Option.bind_some, if_pos rfl, or_i64 _ _ h5 (pow_lt60 hlt), e2, hih _ (Nat.or_lt_two_pow h5 (pow_lt60 hlt)), hd]
  unfold bitsFrom
  rw [List.foldl_cons, Int.toNat_natCast]
theorem sqMask_l0 (w h : Int) (a u : List Int) (hL : a.length ≤ 4000000) (hLu : u.length ≤ 4000000) (hw : wrap64 (w * wrap64 (h + 1)) = w * (h + 1)) (h0 : 0 ≤ w * (h + 1)) (h1 : w * (h + 1) ≤ 20) (ha : ∀ k ∈ a, 0 ≤ k ∧ k ≤ 20) (hu : ∀ k ∈ u, 0 ≤ k ∧ k ≤ 20) : ∀ (d k i : Nat) (m : Nat), a.length - i = d → i ≤ a.length → d + u.length + 2 < k → m < 2 ^ 60 →
  spec_sqMask.l0 k (m : Int) a (a.length : Int) (i : Int) w h a u = some ((bitsFrom (w * (h + 1)).toNat u (bitsFrom 0 (a.drop i) m) : Nat) : Int) := by
 intro d
 induction d with
 | zero =>
  intro k i m h2 h3 h4 h5
  obtain ⟨k, rfl⟩ : ∃ q, k = q + 1 := ⟨k - 1, by omega⟩
  simp only [spec_sqMask.l0]
  rw [if_neg (by omega), List.drop_of_length_le (by omega)]
  exact sqMask_l1 w h a u hLu hw h0 h1 hu u.length k 0 m (by omega) (by omega) (by omega) h5
 | succ d ih =>
  intro k i m h2 h3 h4 h5
  obtain ⟨k, rfl⟩ : ∃ q, k = q + 1 := ⟨k - 1, by omega⟩
  have hi : i < a.length := by omega
  have hk := ha a[i] (List.getElem_mem hi)
  have e2 : wrap64 ((i : Int) + 1) = ((i + 1 : Nat) : Int) := by unfold wrap64; omega
  have hr := rd_nat a i hi
  have hd := List.drop_eq_getElem_cons hi
  have c1 : (i : Int) < (a.length : Int) := Int.ofNat_lt.2 hi
  have c2 : (0 : Int) ≤ (i : Int) := Int.natCast_nonneg _
  have n1 : a.length - (i + 1) = d := by clear hk hr hd c1 c2 ih h5 hw h0 h1 hu ha; omega
  have n3 : d + u.length + 2 < k := by clear hk hr hd c1 c2 ih h5 hw h0 h1 hu ha; omega
  have hih := fun m hm => ih k (i + 1) m n1 hi n3 hm
  generalize a[i] = x at hk hr hd
  obtain ⟨y, rfl⟩ : ∃ y : Nat, x = (y : Int) := ⟨x.toNat, (Int.toNat_of_nonneg hk.1).symm⟩
  have hlt : 0 + y < 60 := by have := hk.2; clear hr hd c1 c2 ih h5 hw h0 h1 hu ha hih; omega
  have hy20 : y ≤ 20 := by have := hk.2; clear hr hd c1 c2 ih h5 hw h0 h1 hu ha hih; omega
  simp only [spec_sqMask.l0]
  rw [if_pos c1, if_pos c2, if_pos c1, hr, sqBit_f w h false y hw h0 h1 hy20, Option.bind_some, if_neg (by simp), or_i64 _ _ h5 (pow_lt60 hlt), e2, hih _ (Nat.or_lt_two_pow h5 (pow_lt60 hlt)), hd]
  unfold bitsFrom
  rw [List.foldl_cons, Int.toNat_natCast]
theorem sqMask_f {w h : Int} {a u : List Int} (hf : figB w h a u = true) (ha : a.length ≤ 1000000) (hu : u.length ≤ 1000000) (k : Nat) (hk : 2000010 < k) : spec_sqMask.f k w h a u = some ((figMask w h a u : Nat) : Int) := by
 unfold figB at hf
 simp only [Bool.and_eq_true] at hf
 obtain ⟨hg, -, -, hi1, hi2⟩ := hf
 obtain ⟨b1, b2, b3, b4⟩ := grid_bounds (by simp only [Bool.and_eq_true]; exact hg)
 obtain ⟨c1, c2, c3, c4⟩ := area_bounds b1 b2 b3 b4
 have e1 : wrap64 (h + 1) = h + 1 := by unfold wrap64; omega
 have e3 : wrap64 (w * (h + 1)) = w * (h + 1) := by unfold wrap64; omega
 unfold spec_sqMask.f figMask
 have q := sqMask_l0 w h a u (by omega) (by omega) (by rw [e1, e3]) (by omega) (by omega) (fun k hk => by have := inB_mem hi1 k hk; omega) (fun k hk => by have := inB_mem hi2 k hk; omega) a.length k 0 0 (by omega) (by omega) (by clear hi1 hi2; omega) (by decide)
 rw [List.drop_zero] at q
 exact q
def sqsSame (w h : Nat) : Bool :=
 match impl_grid_squares.f 200 (w : Int) (h : Int), spec_sqAll.f 200 (w : Int) (h : Int) with
 | some L, some PL => (L.map (fun q => q.f3) == PL.map (fun q => q.f3)) && L.all (fun q => decide (0 ≤ q.f3) && decide (q.f3 < 2 ^ 60)) && decide (L.length ≤ 30)
 | _, _ => false
theorem sqs_11 : sqsSame 1 1 = true := by decide +kernel
theorem sqs_12 : sqsSame 1 2 = true := by decide +kernel
theorem sqs_13 : sqsSame 1 3 = true := by decide +kernel
theorem sqs_14 : sqsSame 1 4 = true := by decide +kernel
theorem sqs_21 : sqsSame 2 1 = true := by decide +kernel
theorem sqs_22 : sqsSame 2 2 = true := by decide +kernel
theorem sqs_23 : sqsSame 2 3 = true := by decide +kernel
theorem sqs_24 : sqsSame 2 4 = true := by decide +kernel
theorem sqs_31 : sqsSame 3 1 = true := by decide +kernel
theorem sqs_32 : sqsSame 3 2 = true := by decide +kernel
theorem sqs_33 : sqsSame 3 3 = true := by decide +kernel
theorem sqs_34 : sqsSame 3 4 = true := by decide +kernel
theorem sqs_41 : sqsSame 4 1 = true := by decide +kernel
theorem sqs_42 : sqsSame 4 2 = true := by decide +kernel
theorem sqs_43 : sqsSame 4 3 = true := by decide +kernel
theorem sqs_44 : sqsSame 4 4 = true := by decide +kernel
theorem sqs_all (w h : Nat) (h1 : 1 ≤ w) (h2 : w ≤ 4) (h3 : 1 ≤ h) (h4 : h ≤ 4) : sqsSame w h = true := by
 have hw : w = 1 ∨ w = 2 ∨ w = 3 ∨ w = 4 := by omega
 have hh : h = 1 ∨ h = 2 ∨ h = 3 ∨ h = 4 := by omega
 rcases hw with rfl | rfl | rfl | rfl <;> rcases hh with rfl | rfl | rfl | rfl
 ·exact sqs_11
 ·exact sqs_12
 ·exact sqs_13
 ·exact sqs_14
 ·exact sqs_21
 ·exact sqs_22
 ·exact sqs_23
 ·exact sqs_24
 ·exact sqs_31
 ·exact sqs_32
 ·exact sqs_33
 ·exact sqs_34
 ·exact sqs_41
 ·exact sqs_42
 ·exact sqs_43
 ·exact sqs_44
theorem nat_of_list {α : Type} (f : α → Int) : ∀ l : List α, (∀ q ∈ l, 0 ≤ f q ∧ f q < 2 ^ 60) → ∃ E : List Nat, l.map f = E.map (fun n : Nat => (n : Int)) ∧ ∀ e ∈ E, e < 2 ^ 60
 | [], _ => ⟨[], rfl, fun _ h => by cases h⟩
 | x :: l, h => by
  obtain ⟨E, h1, h2⟩ := nat_of_list f l (fun q hq => h q (List.mem_cons_of_mem _ hq))
  obtain ⟨h3, h4⟩ := h x List.mem_cons_self
  refine ⟨(f x).toNat :: E, ?_, fun e he => ?_⟩
  ·rw [List.map_cons, List.map_cons, h1, Int.toNat_of_nonneg h3]
  ·rcases List.mem_cons.1 he with rfl | he
   ·omega
   ·exact h2 e he
theorem squares_f {w h : Int} (h1 : 1 ≤ w) (h2 : w ≤ 4) (h3 : 1 ≤ h) (h4 : h ≤ 4) (k : Nat) (hk : 200 ≤ k) : ∃ (L : List S118) (PL : List S122) (E : List Nat), impl_grid_squares.f k w h = some L ∧ spec_sqAll.f k w h = some PL ∧ L.map (fun q => q.f3) = E.map (fun n : Nat => (n : Int)) ∧ PL.map (fun q => q.f3) = E.map (fun n : Nat => (n : Int)) ∧ (∀ e ∈ E, e < 2 ^ 60) ∧ L.length ≤ 30 := by
 obtain ⟨w, rfl⟩ := Int.eq_ofNat_of_zero_le (show 0 ≤ w by omega)
 obtain ⟨h, rfl⟩ := Int.eq_ofNat_of_zero_le (show 0 ≤ h by omega)
 have hs : sqsSame w h = true := sqs_all w h (by omega) (by omega) (by omega) (by omega)
 unfold sqsSame at hs
 cases hL : impl_grid_squares.f 200 (w : Int) (h : Int) with
 | none => rw [hL] at hs; cases hs
 | some L =>
  cases hP : spec_sqAll.f 200 (w : Int) (h : Int) with
  | none => rw [hL, hP] at hs; cases hs
  | some PL =>
   rw [hL, hP] at hs
   simp only [Bool.and_eq_true, beq_iff_eq, decide_eq_true_eq] at hs
   obtain ⟨⟨e1, e2⟩, e3⟩ := hs
   obtain ⟨E, e4, e5⟩ := nat_of_list (fun q : S118 => q.f3) L (fun q hq => by
    have := List.all_eq_true.1 e2 q hq
    simpa using this)
   exact ⟨L, PL, E, up_rounds (fun k => impl_grid_squares.mono _ _ k) hk hL, up_rounds (fun k => spec_sqAll.mono _ _ k) hk hP, e4, by rw [← e1, e4], e5, e3⟩
def subE (e x : Nat) : Bool := diffN e x == 0
theorem subE_test {e x : Nat} : subE e x = true ↔ ∀ i, e.testBit i = true → x.testBit i = true := by
 unfold subE
 rw [beq_iff_eq]
 constructor
 ·intro h i hi
  have h2 := diffN_test e x i
  rw [h, hi] at h2
  simpa using h2.symm
 ·intro h
  apply Nat.eq_of_testBit_eq
  intro i
  rw [diffN_test, Nat.zero_testBit]
  cases hi : e.testBit i with
  | false => rfl
  | true => rw [h i hi]; rfl
theorem subE_and (e x : Nat) : subE e x = true ↔ x &&& e = e := by
 rw [subE_test]
 constructor
 ·intro h
  apply Nat.eq_of_testBit_eq
  intro i
  rw [Nat.testBit_and]
  cases hi : e.testBit i with
  | false => simp
  | true => rw [h i hi]; rfl
 ·intro h i hi
  have h2 := congrArg (fun n => n.testBit i) h
  simp only [Nat.testBit_and, hi, Bool.and_true] at h2
  exact h2
theorem map_at {α : Type} {f : α → Int} {L : List α} {E : List Nat} (h : L.map f = E.map (fun n : Nat => (n : Int))) (d : α) (i : Nat) (hi : i < E.length) : i < L.length ∧ f (L.getD i d) = ((E[i] : Nat) : Int) := by
 have hl : L.length = E.length := by have := congrArg List.length h; simpa using this
 refine ⟨by omega, ?_⟩
 have h2 := congrArg (fun l => l[i]?) h
 simp only [List.getElem?_map] at h2
 rw [List.getElem?_eq_getElem (show i < L.length by omega), List.getElem?_eq_getElem hi] at h2
 rw [List.getD_eq_getElem?_getD, List.getElem?_eq_getElem (show i < L.length by omega)]
 simpa using h2
theorem filter_map {α : Type} (f : α → Int) (p : Int → Bool) (q : Nat → Bool) : ∀ (L : List α) (E : List Nat), L.map f = E.map (fun n : Nat => (n : Int)) → (∀ e ∈ E, p ((e : Nat) : Int) = q e) → (L.filter fun x => p (f x)).map f = (E.filter q).map (fun n : Nat => (n : Int))
 | [], [], _, _ => rfl
 | [], e :: E, h, _ => by cases h
 | x :: L, [], h, _ => by cases h
 | x :: L, e :: E, h, hp => by
  rw [List.map_cons, List.map_cons] at h
  injection h with h1 h2
  have ih := filter_map f p q L E h2 (fun e he => hp e (List.mem_cons_of_mem _ he))
  have h3 : p (f x) = q e := by rw [h1]; exact hp e List.mem_cons_self
  by_cases hq : q e = true
  ·rw [List.filter_cons_of_pos (p := fun x => p (f x)) (h3.trans hq), List.filter_cons_of_pos hq, List.map_cons, List.map_cons, ih, h1]
  ·rw [List.filter_cons_of_neg (p := fun x => p (f x)) (by rw [h3]; exact hq), List.filter_cons_of_neg hq, ih]
theorem of_f {L : List S118} {E : List Nat} (h : L.map (fun q => q.f3) = E.map (fun n : Nat => (n : Int))) (hE : ∀ e ∈ E, e < 2 ^ 60) (hl : L.length ≤ 30) (x : Nat) (hx : x < 2 ^ 60) : ∃ L', impl_of.f L (x : Int) = some L' ∧ L'.map (fun q => q.f3) = (E.filter fun e => subE e x).map (fun n : Nat => (n : Int)) ∧ L' = L.filter (ofP (x : Int)) := by
 refine ⟨L.filter (ofP (x : Int)), ?_, ?_, rfl⟩
 ·unfold impl_of.f
  rw [if_pos (Nat.le_trans hl (by decide))]
 ·have := filter_map (fun q : S118 => q.f3) (fun y => Go.bits .andNot .u64 y (x : Int) == 0) (fun e => subE e x) L E h (fun e he => by
   rw [andNot_u64 _ _ (hE e he) hx]
   unfold subE
   rw [Bool.eq_iff_iff, beq_iff_eq, beq_iff_eq]
   exact ⟨fun h => by exact_mod_cast h, fun h => by rw [h]; rfl⟩)
  exact this


theorem and_neg_i64 (x : Nat) (h0 : x ≠ 0) (hx : x < 2 ^ 60) : Go.bits .and .i64 (x : Int) (-(x : Int)) = ((2 ^ Lib.ctz 64 x : Nat) : Int) := by
  have h60 : (2 : Nat) ^ 60 = 1152921504606846976 := by decide
  have hx2 : x < 2 ^ 64 := Nat.lt_of_lt_of_le hx (by decide)
  obtain ⟨h1, -⟩ := Lib.lowest_bit 64 x h0 hx2
  obtain ⟨h2, -⟩ := low_bits x h0 hx
  have e1 : (BitVec.ofInt 64 (x : Int)).toNat = x := by rw [BitVec.toNat_ofInt]; omega
  have e2 : (BitVec.ofInt 64 (-(x : Int))).toNat = 2 ^ 64 - x := by rw [BitVec.toNat_ofInt]; omega
  have hb : IntKind.i64.bits = 64 := rfl
  unfold Go.bits
  rw [hb]
  show IntKind.i64.wrap ((BitVec.ofInt 64 (x : Int) &&& BitVec.ofInt 64 (-(x : Int))).toNat : Int) = _
  rw [BitVec.toNat_and, e1, e2, h1]
  refine i64_small _ (Int.natCast_nonneg _) ?_
  have h3 := pow_lt60 h2
  have h4 : (2 : Int) ^ 60 = 1152921504606846976 := by decide
  rw [h4]
  omega
theorem wrap_neg (B : Nat) (h : (B : Int) < 1152921504606846976) : wrap64 (-(B : Int)) = -(B : Int) := by unfold wrap64; omega
theorem lit60 {B : Nat} (h : B < 2 ^ 60) : (B : Int) < 1152921504606846976 := by
  have h2 : (2 : Nat) ^ 60 = 1152921504606846976 := by decide
  rw [h2] at h
  omega


theorem sub_diff (e M ch : Nat) : subE e (diffN M ch) = (subE e M && decide (e &&& ch = 0)) := by
 rw [Bool.eq_iff_iff, Bool.and_eq_true, decide_eq_true_iff, subE_test, subE_test]
 constructor
 ·intro h
  refine ⟨fun i hi => ?_, ?_⟩
  ·have := h i hi
   rw [diffN_test, Bool.and_eq_true] at this
   exact this.1
  ·apply Nat.eq_of_testBit_eq
   intro i
   rw [Nat.testBit_and, Nat.zero_testBit]
   cases hi : e.testBit i with
   | false => rfl
   | true =>
    have := h i hi
    rw [diffN_test, Bool.and_eq_true] at this
    simpa using this.2
 ·rintro ⟨h1, h2⟩ i hi
  rw [diffN_test, h1 i hi, free_bit h2 hi]; rfl
theorem find_miss (M ch : Nat) : ∀ E : List Nat, (E.find? fun e => subE e (diffN M ch)) = missF (E.filter fun e => subE e M) ch
 | [] => rfl
 | e :: E => by
  have ih := find_miss M ch E
  by_cases h1 : subE e M = true
  ·rw [List.filter_cons_of_pos (p := fun e => subE e M) h1]
   unfold missF at ih ⊢
   by_cases h2 : e &&& ch = 0
   ·rw [List.find?_cons_of_pos (p := fun e => subE e (diffN M ch)) (by rw [sub_diff, h1]; simp [h2]), List.find?_cons_of_pos (by simp [h2])]
   ·rw [List.find?_cons_of_neg (p := fun e => subE e (diffN M ch)) (by rw [sub_diff, h1]; simp [h2]), List.find?_cons_of_neg (by simp [h2]), ih]
  ·rw [List.filter_cons_of_neg (p := fun e => subE e M) h1, List.find?_cons_of_neg (p := fun e => subE e (diffN M ch)) (by rw [sub_diff]; simp [h1]), ih]
theorem diffN_or (M ch b : Nat) : diffN (diffN M ch) b = diffN M (ch ||| b) := by
 apply Nat.eq_of_testBit_eq
 intro i
 rw [diffN_test, diffN_test, diffN_test, Nat.testBit_or]
 cases M.testBit i <;> cases ch.testBit i <;> cases b.testBit i <;> rfl
theorem diffN_none (M : Nat) : diffN M 0 = M := by
 apply Nat.eq_of_testBit_eq
 intro i
 rw [diffN_test, Nat.zero_testBit]; simp
theorem sqHit_l0 {PL : List S122} {E : List Nat} (h : PL.map (fun q => q.f3) = E.map (fun n : Nat => (n : Int))) (hE : ∀ e ∈ E, e < 2 ^ 60) (hl : E.length ≤ 30) (X : Nat) (hX : X < 2 ^ 60) (n : Int) (k : Nat) : ∀ (d i : Nat), E.length - i = d → i ≤ E.length →
  (((E.drop i).find? fun e => subE e X) = none → spec_sqHit.l0 (k + d + 1) PL (X : Int) n PL (PL.length : Int) (i : Int) = some true) ∧
  (∀ e, ((E.drop i).find? fun e => subE e X) = some e → ∃ k', k ≤ k' ∧ spec_sqHit.l0 (k + d + 1) PL (X : Int) n PL (PL.length : Int) (i : Int) = if n = 0 then some false else spec_sqHit.l1 k' PL (X : Int) n (e : Int)) := by
 have hlen : PL.length = E.length := by have := congrArg List.length h; simpa using this
 intro d
 induction d with
 | zero =>
  intro i h1 h2
  have hi : i = E.length := by omega
  subst hi
  rw [List.drop_length]
  refine ⟨fun _ => ?_, fun e he => by cases he⟩
  rw [Nat.add_zero, spec_sqHit.l0, hlen, if_neg (by omega)]
 | succ d ih =>
  intro i h1 h2
  have hi : i < E.length := by omega
  obtain ⟨hp1, hp2⟩ := map_at h (⟨0, 0, 0, 0⟩ : S122) i hi
  have hrd : (rd_T122 PL (i : Int)).f3 = ((E[i] : Nat) : Int) := by
   unfold rd_T122; rw [Int.toNat_natCast]; exact hp2
  have hEi := hE _ (List.getElem_mem hi)
  have hand := and_i64 X E[i] hX hEi
  have hstep : spec_sqHit.l0 (k + (d + 1) + 1) PL (X : Int) n PL (PL.length : Int) (i : Int) = if subE E[i] X = true then (if n = 0 then some false else spec_sqHit.l1 (k + (d + 1)) PL (X : Int) n ((E[i] : Nat) : Int)) else spec_sqHit.l0 (k + d + 1) PL (X : Int) n PL (PL.length : Int) ((i + 1 : Nat) : Int) := by
   rw [spec_sqHit.l0, if_pos (by rw [hlen]; omega), if_pos (by omega), if_pos (by omega), hrd, hand]
   have hw : wrap64 ((i : Int) + 1) = ((i + 1 : Nat) : Int) := by unfold wrap64; omega
   rw [hw]
   by_cases hs : subE E[i] X = true
   ·rw [if_pos (by exact_mod_cast (subE_and _ _).1 hs), if_pos hs]
   ·rw [if_neg (fun hh => hs ((subE_and _ _).2 (by exact_mod_cast hh))), if_neg hs]; rfl
  rw [hstep, List.drop_eq_getElem_cons hi]
  obtain ⟨a1, a2⟩ := ih (i + 1) (by omega) (by omega)
  by_cases hs : subE E[i] X = true
  ·rw [List.find?_cons_of_pos (p := fun e => subE e X) hs, if_pos hs]
   refine ⟨fun hh => (by cases hh), fun e he => ?_⟩
   obtain rfl := Option.some.inj he
   exact ⟨k + (d + 1), by omega, rfl⟩
  ·rw [List.find?_cons_of_neg (p := fun e => subE e X) hs, if_neg hs]
   exact ⟨a1, a2⟩
theorem any_flat {α : Type} (f : α → List Nat) : ∀ l : List α, (!(l.flatMap f).isEmpty) = l.any fun x => !(f x).isEmpty
 | [] => rfl
 | x :: l => by
  have ih := any_flat f l
  rw [List.flatMap_cons, List.any_cons, ← ih]
  cases f x with
  | nil => rfl
  | cons a t => rfl
theorem sqHit_l1 {PL : List S122} (Ls : List Nat) (M ch m : Nat) (hM : M < 2 ^ 60) (hm : m ≤ 64) (F : Nat)
  (ih : ∀ (k ch : Nat), F ≤ k → ch < 2 ^ 60 → spec_sqHit.f k PL ((diffN M ch : Nat) : Int) (m : Int) = some (!(hitW Ls m ch).isEmpty)) (hch : ch < 2 ^ 60) :
  ∀ (c B k : Nat), (bitsN B).length = c → B < 2 ^ 60 → F + c < k → spec_sqHit.l1 k PL ((diffN M ch : Nat) : Int) ((m + 1 : Nat) : Int) (B : Int) = some ((bitsI B).any fun x => !(hitW Ls m (ch ||| 2 ^ x.toNat)).isEmpty) := by
 intro c
 induction c with
 | zero =>
  intro B k h1 h2 hk
  have hB : B = 0 := by
   rcases Nat.eq_zero_or_pos B with h0 | h0
   ·exact h0
   ·rw [bitsN_step B (by omega) h2] at h1; simp at h1
  subst hB
  obtain ⟨k, rfl⟩ : ∃ q, k = q + 1 := ⟨k - 1, by omega⟩
  rw [spec_sqHit.l1, if_pos (show ((0 : Nat) : Int) = 0 from rfl)]
  unfold bitsI; rw [bitsN_zero]; rfl
 | succ c ihc =>
  intro B k h1 h2 hk
  have hB : B ≠ 0 := by rintro rfl; rw [bitsN_zero] at h1; simp at h1
  obtain ⟨q1, q2, -, -, q5⟩ := low_bits B hB h2
  have hst := bitsN_step B hB h2
  have hlen : (bitsN (B &&& (B - 1))).length = c := by rw [hst, List.length_cons] at h1; omega
  have hp := pow_lt60 q1
  have hB1 : B - 1 < 2 ^ 60 := Nat.lt_of_le_of_lt (Nat.sub_le _ _) h2
  have hw1 : wrap64 ((B : Int) - 1) = ((B - 1 : Nat) : Int) := by
   have := lit60 h2
   clear ih ihc h1 hst hlen q1 q2 q5 hp
   unfold wrap64; omega
  have hw2 : wrap64 (((m + 1 : Nat) : Int) - 1) = (m : Int) := by
   clear ih ihc h1 hst hlen q1 q2 q5 hp
   unfold wrap64; omega
  obtain ⟨k, rfl⟩ : ∃ q, k = q + 1 := ⟨k - 1, by omega⟩
  have hbi : bitsI B = ((Lib.ctz 64 B : Nat) : Int) :: bitsI (B &&& (B - 1)) := by unfold bitsI; rw [hst]; rfl
  rw [spec_sqHit.l1, if_neg (by exact_mod_cast hB), wrap_neg B (lit60 h2), and_neg_i64 B hB h2, andNot_i64 _ _ (diffN_lt ch hM) hp, diffN_or, hw1, hw2, ih k _ (by omega) (Nat.or_lt_two_pow hch hp), Option.bind_some, hbi, List.any_cons, Int.toNat_natCast, and_i64 _ _ h2 hB1]
  cases (!(hitW Ls m (ch ||| 2 ^ Lib.ctz 64 B)).isEmpty) with
  | true => rw [if_pos rfl]; rfl
  | false => rw [if_neg (by simp), ihc _ k hlen (Nat.lt_of_le_of_lt Nat.and_le_left h2) (by omega)]; rfl
theorem sqHit_f {PL : List S122} {E : List Nat} (h : PL.map (fun q => q.f3) = E.map (fun n : Nat => (n : Int))) (hE : ∀ e ∈ E, e < 2 ^ 60) (hl : E.length ≤ 30) (M : Nat) (hM : M < 2 ^ 60) :
  ∀ (n k ch : Nat), (n + 1) * 200 ≤ k → n ≤ 64 → ch < 2 ^ 60 → spec_sqHit.f k PL ((diffN M ch : Nat) : Int) (n : Int) = some (!(hitW (E.filter fun e => subE e M) n ch).isEmpty) := by
 have key : ∀ (k ch : Nat) (n : Int), 40 ≤ k → (missF (E.filter fun e => subE e M) ch = none → spec_sqHit.f k PL ((diffN M ch : Nat) : Int) n = some true) ∧
   (∀ e, missF (E.filter fun e => subE e M) ch = some e → ∃ k', k - 40 ≤ k' ∧ spec_sqHit.f k PL ((diffN M ch : Nat) : Int) n = if n = 0 then some false else spec_sqHit.l1 k' PL ((diffN M ch : Nat) : Int) n (e : Int)) := by
  intro k ch n hk
  obtain ⟨q, rfl⟩ : ∃ q, k = (q + E.length + 1) + 1 := ⟨k - E.length - 2, by omega⟩
  have := sqHit_l0 h hE hl (diffN M ch) (diffN_lt ch hM) n q E.length 0 (by omega) (Nat.zero_le _)
  rw [List.drop_zero, find_miss] at this
  obtain ⟨a1, a2⟩ := this
  rw [spec_sqHit.f]
  refine ⟨a1, fun e he => ?_⟩
  obtain ⟨k', h1, h2⟩ := a2 e he
  exact ⟨k', by omega, h2⟩
 intro n
 induction n with
 | zero =>
  intro k ch hk hn hch
  obtain ⟨a1, a2⟩ := key k ch ((0 : Nat) : Int) (by omega)
  rcases hm : missF (E.filter fun e => subE e M) ch with _ | s
  ·rw [a1 hm, hitW_none hm]; rfl
  ·obtain ⟨k', -, h2⟩ := a2 s hm
   rw [h2, hitW_zero hm]; rfl
 | succ m ih =>
  intro k ch hk hn hch
  obtain ⟨a1, a2⟩ := key k ch ((m + 1 : Nat) : Int) (by omega)
  rcases hm : missF (E.filter fun e => subE e M) ch with _ | s
  ·rw [a1 hm, hitW_none hm]; rfl
  ·obtain ⟨k', h1, h2⟩ := a2 s hm
   have hs60 : s < 2 ^ 60 := hE s (List.mem_filter.1 (missF_mem hm)).1
   rw [h2, if_neg (by omega), hitW_succ hm, any_flat]
   exact sqHit_l1 (E.filter fun e => subE e M) M ch m hM (by omega) ((m + 1) * 200) (fun k ch hk hch => ih k ch hk (by omega) hch) hch _ s k' rfl hs60 (by have := bitsN_len s; omega)


def sqsPos (w h : Nat) : Bool := match impl_grid_squares.f 200 (w : Int) (h : Int) with | some L => L.all (fun q => decide (0 < q.f3)) | none => false
theorem sqp_all : ((List.range 4).all fun a => (List.range 4).all fun b => sqsPos (a + 1) (b + 1)) = true := by decide +kernel
theorem sqsPos_of (w h : Nat) (h1 : 1 ≤ w) (h2 : w ≤ 4) (h3 : 1 ≤ h) (h4 : h ≤ 4) : sqsPos w h = true := by
  have h5 := List.all_eq_true.1 (List.all_eq_true.1 sqp_all (w - 1) (List.mem_range.2 (by omega))) (h - 1) (List.mem_range.2 (by omega))
  rw [show w - 1 + 1 = w by omega, show h - 1 + 1 = h by omega] at h5
  exact h5


theorem sqFewest_l0 {PL : List S122} {E : List Nat} (h : PL.map (fun q => q.f3) = E.map (fun n : Nat => (n : Int))) (hE : ∀ e ∈ E, e < 2 ^ 60) (hl : E.length ≤ 30) (M : Nat) (hM : M < 2 ^ 60) {K : Nat} (hK : K ≤ 60) (hne : hitW (E.filter fun e => subE e M) K 0 ≠ []) (hmin : ∀ j, j < K → hitW (E.filter fun e => subE e M) j 0 = []) :
    ∀ (d j k : Nat), K - j = d → j ≤ K → 13000 + d < k → spec_sqFewest.l0 k PL (M : Int) (j : Int) = some (K : Int) := by
  intro d
  induction d with
  | zero =>
    intro j k h1 h2 hk
    obtain rfl : j = K := by omega
    obtain ⟨k, rfl⟩ : ∃ q, k = q + 1 := ⟨k - 1, by omega⟩
    have hs := sqHit_f h hE hl M hM j k 0 (by omega) (by omega) (by decide)
    rw [diffN_none] at hs
    have he : (hitW (E.filter fun e => subE e M) j 0).isEmpty = false := by
      cases hh : hitW (E.filter fun e => subE e M) j 0 with
      | nil => exact absurd hh hne
      | cons a t => rfl
    rw [spec_sqFewest.l0, hs, he, Option.bind_some, if_pos (show (!false) = true from rfl)]
  | succ d ih =>
    intro j k h1 h2 hk
    obtain ⟨k, rfl⟩ : ∃ q, k = q + 1 := ⟨k - 1, by omega⟩
    have hs := sqHit_f h hE hl M hM j k 0 (by omega) (by omega) (by decide)
    rw [diffN_none, hmin j (by omega)] at hs
    have hw : wrap64 ((j : Int) + 1) = ((j + 1 : Nat) : Int) := by clear ih hs; unfold wrap64; omega
    rw [spec_sqFewest.l0, hs, Option.bind_some, if_neg (by simp), hw]
    exact ih (j + 1) k (by omega) (by omega) (by omega)
def FewOK (w h : Int) (a u : List Int) (K : Nat) (qs : List S118) : Prop :=
  impl_Figure_squares.f 4000001 w h a u = some qs ∧ (∀ q ∈ qs, 0 ≤ q.f3 ∧ q.f3 < 2 ^ 40) ∧ qs.length ≤ 1000000 ∧ K ≤ 64 ∧ hitW (qs.map fun q => q.f3.toNat) K 0 ≠ [] ∧ ∀ j, j < K → hitW (qs.map fun q => q.f3.toNat) j 0 = []
def sqs40 (w h : Nat) : Bool := match impl_grid_squares.f 200 (w : Int) (h : Int) with | some L => L.all (fun q => decide (q.f3 < 2 ^ 40)) | none => false
theorem sq40_all : ((List.range 4).all fun a => (List.range 4).all fun b => sqs40 (a + 1) (b + 1)) = true := by decide +kernel
theorem sqs40_of (w h : Nat) (h1 : 1 ≤ w) (h2 : w ≤ 4) (h3 : 1 ≤ h) (h4 : h ≤ 4) : sqs40 w h = true := by
  have h5 := List.all_eq_true.1 (List.all_eq_true.1 sq40_all (w - 1) (List.mem_range.2 (by omega))) (h - 1) (List.mem_range.2 (by omega))
  rw [show w - 1 + 1 = w by omega, show h - 1 + 1 = h by omega] at h5
  exact h5
theorem figB_grid {w h : Int} {a u : List Int} (hf : figB w h a u = true) : 1 ≤ w ∧ w ≤ 4 ∧ 1 ≤ h ∧ h ≤ 4 := by
  unfold figB at hf
  simp only [Bool.and_eq_true] at hf
  obtain ⟨hg, -, -, -, -⟩ := hf
  exact grid_bounds (by simp only [Bool.and_eq_true]; exact hg)
theorem FewestToTake_pure {w h : Int} {a u : List Int} (ha : a.length ≤ 1000000) (hu : u.length ≤ 1000000) :
    (spec_FewestToTake.f 4000001 w h a u = some (0, false) ∧ impl_isFew.f 4000001 w h a u = some false) ∨
    (∃ (K : Nat) (qs : List S118), spec_FewestToTake.f 4000001 w h a u = some ((K : Int), true) ∧ impl_isFew.f 4000001 w h a u = some true ∧ FewOK w h a u K qs) := by
  cases hf : figB w h a u with
  | false =>
    refine .inl ⟨?_, ?_⟩
    · unfold spec_FewestToTake.f spec_sqFew.f
      rw [fiGood_f w h a u ha hu _ (by decide), hf, Option.bind_some, if_neg (by simp), Option.bind_some, if_neg (by simp)]
    · unfold impl_isFew.f
      rw [IsFigure_f w h a u ha hu _ (by decide), hf, Option.bind_some, if_neg (by simp)]
  | true =>
    obtain ⟨gw1, gw4, gh1, gh4⟩ := figB_grid hf
    by_cases h9 : wrap64 (w * h) ≤ 9
    · have hM60 := figMask_lt hf
      obtain ⟨L, PL, E, hL, hP, hLE, hPE, hE, hl⟩ := squares_f gw1 gw4 gh1 gh4 200 (by decide)
      have hEl : E.length ≤ 30 := by have := congrArg List.length hLE; simp at this; omega
      have hwn := Int.toNat_of_nonneg (show 0 ≤ w by omega)
      have hhn := Int.toNat_of_nonneg (show 0 ≤ h by omega)
      have hpos : ∀ e ∈ E, e ≠ 0 := by
        have hp := sqsPos_of w.toNat h.toNat (by omega) (by omega) (by omega) (by omega)
        unfold sqsPos at hp
        rw [hwn, hhn, hL] at hp
        simp only [List.all_eq_true, decide_eq_true_eq] at hp
        intro e he h0
        have : ((e : Nat) : Int) ∈ L.map (fun q => q.f3) := by rw [hLE]; exact List.mem_map.2 ⟨e, he, rfl⟩
        obtain ⟨q, hq, hqe⟩ := List.mem_map.1 this
        have := hp q hq
        omega
      have h40 : ∀ q ∈ L, 0 ≤ q.f3 ∧ q.f3 < 2 ^ 40 := by
        have hp := sqs40_of w.toNat h.toNat (by omega) (by omega) (by omega) (by omega)
        unfold sqs40 at hp
        rw [hwn, hhn, hL] at hp
        simp only [List.all_eq_true, decide_eq_true_eq] at hp
        intro q hq
        refine ⟨?_, hp q hq⟩
        have : q.f3 ∈ L.map (fun q => q.f3) := List.mem_map.2 ⟨q, hq, rfl⟩
        rw [hLE] at this
        obtain ⟨e, -, he⟩ := List.mem_map.1 this
        omega
      have hLk : impl_grid_squares.f 4000001 w h = some L := up_rounds (fun k => impl_grid_squares.mono _ _ k) (by decide) hL
      have hPk : spec_sqAll.f 4000001 w h = some PL := up_rounds (fun k => spec_sqAll.mono _ _ k) (by decide) hP
      obtain ⟨qs, o1, o2, o3⟩ := of_f hLE hE hl (figMask w h a u) hM60
      have hqs : (qs.map fun q => q.f3.toNat) = E.filter fun e => subE e (figMask w h a u) := by
        have h1 : (qs.map fun q => q.f3.toNat) = (qs.map fun q => q.f3).map Int.toNat := by rw [List.map_map]; rfl
        rw [h1, o2, List.map_map]
        exact List.map_id'' (fun n => Int.toNat_natCast n) _
      obtain ⟨K, k1, k2, k3⟩ := hitW_least (Ls := E.filter fun e => subE e (figMask w h a u)) (fun s hs => ⟨hpos s (List.mem_filter.1 hs).1, hE s (List.mem_filter.1 hs).1⟩)
      refine .inr ⟨K, qs, ?_, ?_, ?_, ?_, ?_, by omega, by rw [hqs]; exact k2, by rw [hqs]; exact k3⟩
      · unfold spec_FewestToTake.f spec_sqFew.f spec_sqFewest.f
        rw [fiGood_f w h a u ha hu _ (by decide), hf, Option.bind_some, if_pos rfl, Option.bind_some, decide_eq_true h9, if_pos rfl, hPk, Option.bind_some, sqMask_f hf ha hu _ (by decide), Option.bind_some]
        rw [show (0 : Int) = ((0 : Nat) : Int) from rfl, sqFewest_l0 hPE hE hEl (figMask w h a u) hM60 k1 k2 k3 K 0 4000001 (by omega) (Nat.zero_le _) (by omega)]
        rfl
      · unfold impl_isFew.f
        rw [IsFigure_f w h a u ha hu _ (by decide), hf, Option.bind_some, if_pos rfl, decide_eq_true h9]
      · unfold impl_Figure_squares.f impl_Figure_grid.f
        rw [Option.bind_some, hLk, Option.bind_some, set_f hf ha hu _ (by decide), Option.bind_some, o1, Option.bind_some]
      · intro q hq
        rw [o3] at hq
        exact h40 q (List.mem_filter.1 hq).1
      · rw [o3]
        exact Nat.le_trans (List.length_filter_le _ _) (by omega)
    · refine .inl ⟨?_, ?_⟩
      · unfold spec_FewestToTake.f spec_sqFew.f
        rw [fiGood_f w h a u ha hu _ (by decide), hf, Option.bind_some, if_pos rfl, Option.bind_some, decide_eq_false h9, if_neg (by simp)]
      · unfold impl_isFew.f
        rw [IsFigure_f w h a u ha hu _ (by decide), hf, Option.bind_some, if_pos rfl, decide_eq_false h9]

end Go.Proofs.YtehjfaddhmdicaaDoor.P
/- What the row's listed variable, math/bits' table, gives a walk; a world in which it is laid. -/
namespace Go.Proofs.YtehjfaddhmdicaaDoor.Laid
open Go.RowKit
theorem mapM_at {α β : Type} {f : α → Option β} : ∀ {l : List α} {xs : List β}, l.mapM f = some xs → ∀ (j : Nat) (x : α), l[j]? = some x → ∃ y, xs[j]? = some y ∧ f x = some y
  | [], xs, _, j, x, hj => by simp at hj
  | a :: l, xs, h, j, x, hj => by
    rw [List.mapM_cons] at h
    obtain ⟨y, hy, h⟩ := Option.bind_eq_some_iff.1 h
    obtain ⟨ys, hys, h⟩ := Option.bind_eq_some_iff.1 h
    obtain rfl := Option.some.inj h
    cases j with
    | zero => simp at hj; subst hj; exact ⟨y, rfl, hy⟩
    | succ j => exact mapM_at hys j x (by simpa using hj)
theorem int_of_trod {H : Type} {enc : TypeId × Value → H} {P : Program} {w : World} {base : Nat} {sp : Nat → Bool} {held : Bool} {fuel : Nat} {t : TypeId} {k : IntKind} {c : Value} {y : DataW H × List MemPlace}
    (ht : P.underlying t = some (.int k)) (h : DataW.trod enc P w base sp held fuel t [c] = some y) : ∃ n, c = .int k n ∧ y = (.lit (.int k n), []) := by
  cases fuel with
  | zero => simp [DataW.trod] at h
  | succ fuel =>
    cases c <;> simp [DataW.trod, ht] at h
    rename_i k' n
    obtain ⟨⟨rfl, _⟩, rfl⟩ := h
    exact ⟨n, rfl, rfl⟩
theorem bytes_of_trod {H : Type} {enc : TypeId × Value → H} {P : Program} {w : World} {base : Nat} {sp : Nat → Bool} {held : Bool} {fuel n : Nat} {t e : TypeId} {l : List Value} {tab : List Nat} {ps : List MemPlace} (ht : P.underlying t = some (.array n e)) (he : P.underlying e = some (.int .u8)) (h1 : P.cellsOf t = n) (h2 : P.cellsOf e = 1)
    (h : DataW.trod enc P w base sp held fuel t l = some (.agg (tab.map fun k : Nat => .lit (.int .u8 (k : Int))), ps)) (j : Nat) (hj : j < n) : l[j]? = some (.int .u8 ((tab.getD j 0 : Nat) : Int)) := by
  cases fuel with
  | zero => simp [DataW.trod] at h
  | succ fuel =>
    simp only [DataW.trod, ht, h1, h2] at h
    split at h
    · rename_i hl
      obtain ⟨xs, hxs, hy⟩ := Option.map_eq_some_iff.1 h
      obtain ⟨y, hyj, hf⟩ := mapM_at hxs j j (by rw [List.getElem?_range hj])
      obtain ⟨c, hc⟩ : ∃ c, l[j]? = some c := ⟨l[j]'(by omega), List.getElem?_eq_getElem _⟩
      rw [Nat.mul_one, show (l.drop j).take 1 = [c] from by rw [List.drop_eq_getElem_cons (by omega)]; rw [List.getElem?_eq_getElem (by omega)] at hc; injection hc with hc; rw [hc]; rfl] at hf
      obtain ⟨m, rfl, rfl⟩ := int_of_trod he hf
      have h3 := (Prod.mk.inj hy).1
      injection h3 with h3
      have h4 := congrArg (fun q => q[j]?) h3
      simp only [List.getElem?_map, hyj, Option.map_some] at h4
      rw [hc, List.getD_eq_getElem?_getD]
      cases ht2 : tab[j]? with
      | none => rw [ht2] at h4; cases h4
      | some q =>
        rw [ht2] at h4
        simp at h4
        rw [h4]; rfl
    · cases h
theorem gnum : Tryd.prog.globalNamed "math/bits.deBruijn64tab" = some 0 := by kernel_rfl
theorem gtype : (Tryd.prog.globals[0]?).map (·.type) = some 172 := by kernel_rfl
theorem cellsT : Tryd.prog.cellsOf 172 = 64 := by kernel_rfl
theorem cellsE : Tryd.prog.cellsOf 5 = 1 := by kernel_rfl
theorem tabIs : (Rows.laid_math_bits_deBruijn64tab : DataW Unit) = .agg (Lib.deBruijn64tab.map fun k => .lit (.int .u8 ((k : Nat) : Int))) := by rfl
theorem plain (w : World) : laidMetH Tryd.prog [("math/bits.deBruijn64tab", Rows.laid_math_bits_deBruijn64tab)] w → laidMet Tryd.prog [("math/bits.deBruijn64tab", Rows.laid_math_bits_deBruijn64tab)] w := fun h => h
theorem tb {W : World} (h : laidMetH Tryd.prog [("math/bits.deBruijn64tab", Rows.laid_math_bits_deBruijn64tab)] W) : P.TB W := by
  obtain ⟨ps, ⟨g, t, cs, fuel, p, q, hg, ht, hvar, hd, _, _⟩, _⟩ := plain W h
  obtain rfl := Option.some.inj (gnum.symm.trans hg)
  obtain rfl := Option.some.inj (gtype.symm.trans ht)
  refine ⟨fun j hj => ?_, trivial⟩
  rw [World.var?_cell hg hvar j]
  rw [tabIs] at hd
  have := bytes_of_trod Tryd.underlying172 Tryd.underlying5 cellsT cellsE hd j hj
  rw [← Array.getElem?_toList]
  exact this
def cells64 : Array Value := (Lib.deBruijn64tab.map fun k => Value.int .u8 ((k : Nat) : Int)).toArray
noncomputable def laidWorld (os : Os) : World :=
  { World.holding Tryd.prog os ⟨#[], #[], []⟩ with heap := (World.holding Tryd.prog os ⟨#[], #[], []⟩).heap.modify 0 fun
      | .cells _ t frozen => .cells cells64 t frozen
      | o => o }
set_option maxRecDepth 100000 in
theorem laidWorld_met (os : Os) (args : Array Value) : laidMetH Tryd.prog [("math/bits.deBruijn64tab", Rows.laid_math_bits_deBruijn64tab)] ((laidWorld os).forCall (fun _ _ => 0) ⟨#[], args, []⟩).memory :=
  laidMetH_of_parts (laidMet_of_run' 8 (by kernel_rfl) (by kernel_rfl)) (by kernel_rfl)
end Go.Proofs.YtehjfaddhmdicaaDoor.Laid
namespace Go.Proofs.YtehjfaddhmdicaaDoor.fnExactFewestToTake
open Go.ChangeShapes Go.WideShapes Go.ChangeAt Go.RowKit Go.Proofs.YtehjfaddhmdicaaDoorW.PrintWords Go.Joins
set_option linter.unusedVariables false
theorem own : ownKnob Tryd.prog.godebug = none := Closed.own
theorem laidOut : laidOutB Tryd.prog = true := Closed.laidOut
def IsRow (k : IntKind) (w : World) (a : Option Addr) (len cap : Nat) (zs : List Int) : Prop :=
 (a = none ∧ len = 0 ∧ cap = 0 ∧ zs = []) ∨
 ∃ x, a = some x ∧ len ≤ cap ∧ cap ≤ maxLen ∧ zs.length = cap ∧ (∀ i, i < zs.length → w.cell? (x.add i) = some (.int k (zs.getD i 0))) ∧ ∀ n ∈ zs, (Lit.int k n).wf = true
theorem opened {H : Type} {enc : TypeId × Value → H} {W : World} {m : Nat} {c : Value} {y : DataW H × List MemPlace} (hy : DataW.trod enc Tryd.prog W 0 (fun _ => true) true m 22 [c] = some y) :
  ∃ a len cap zs, c = .slice a len cap ∧ IsRow .i64 W a len cap zs := by
 rcases open_ints Tryd.underlying22 Tryd.underlying3 (by kernel_rfl) hy with ⟨hcs, _⟩ | ⟨x, l, c, zs, hcs, _, hl, hm, hz, _, hcell, hwz⟩
 ·simp at hcs
  exact ⟨none, 0, 0, [], hcs, .inl ⟨rfl, rfl, rfl, rfl⟩⟩
 ·simp at hcs
  exact ⟨some x, l, c, zs, hcs, .inr ⟨_, rfl, hl, hm, by simpa using hz, hcell, hwz⟩⟩
theorem walk (a b : Int) (A2 : Option Addr) (n2 c2 : Nat) (z2 : List Int) (A3 : Option Addr) (n3 c3 : Nat) (z3 : List Int) (w : World) (w2 : IsRow .i64 w A2 n2 c2 z2) (w3 : IsRow .i64 w A3 n3 c3 z3) (y2 : n2 * 8 ≤ 140737488351232) (y3 : n3 * 8 ≤ 140737488351232) (hT : P.TB w) :
  Calls Tryd.prog 5 #[.agg #[.int .i64 a, .int .i64 b, .slice A2 n2 c2, .slice A3 n3 c3]] w fun e w' => e = .returned (.bool true) ∧ Below w.heap.size w w' := by
 obtain ⟨l2, rfl, hr2, hm2, hw2, hc2⟩ := ReadsInt.ofRowC w2
 obtain ⟨l3, rfl, hr3, hm3, hw3, hc3⟩ := ReadsInt.ofRowC w3
 have k2 := Kd.C_of_reads (d := (0 : Int)) (h1 := fun _ => rfl) hr2
 have k3 := Kd.C_of_reads (d := (0 : Int)) (h1 := fun _ => rfl) hr3
 by_cases hbig : l2.length + l3.length ≤ 1000000
 ·have b2 : l2.length ≤ 1000000 := Nat.le_trans (Nat.le_add_right _ _) hbig
  have b3 : l3.length ≤ 1000000 := Nat.le_trans (Nat.le_add_left _ _) hbig
  rcases P.FewestToTake_pure (w := a) (h := b) (a := l2) (u := l3) b2 b3 with ⟨hp1, hp2⟩ | ⟨K, qs, hp1, hp2, hq1, hq2, hq3, hq4, hq5, hq6⟩
  ·exact P.law_FewestToTake_yes a b A2 c2 l2 A3 c3 l3 4000001 0 false P.TB (fun _ _ h hb => h.below hb) w k2 hc2 k3 hc3 hT hbig (Nat.lt_succ_self _)
    (fun B2 d2 B3 d3 W hu2 hd2 hu3 hd3 hG => P.spec_FewestToTake.calls 4000001 a b B2 d2 l2 B3 d3 l3 0 false W hu2 hd2 hu3 hd3 hp1)
    (fun B2 d2 B3 d3 W hu2 hd2 hu3 hd3 hG => P.fewTo_no 4000001 a b B2 d2 l2 B3 d3 l3 W hu2 hd2 hu3 hd3 hp2)
  ·exact P.law_FewestToTake_yes a b A2 c2 l2 A3 c3 l3 4000001 (K : Int) true P.TB (fun _ _ h hb => h.below hb) w k2 hc2 k3 hc3 hT hbig (Nat.lt_succ_self _)
    (fun B2 d2 B3 d3 W hu2 hd2 hu3 hd3 hG => P.spec_FewestToTake.calls 4000001 a b B2 d2 l2 B3 d3 l3 (K : Int) true W hu2 hd2 hu3 hd3 hp1)
    (fun B2 d2 B3 d3 W hu2 hd2 hu3 hd3 hG => P.fewTo_any 4000001 a b B2 d2 l2 B3 d3 l3 qs W hu2 hd2 hu3 hd3 hp2 hq1 hq2 hq3 K hq4 hq5 hq6 hG)
 ·exact P.law_FewestToTake_no a b A2 c2 l2 A3 c3 l3 w k2 hc2 k3 hc3 (by clear hbig; omega) (by clear hbig; omega) hbig
theorem joined_mk (P : Program) (f : FuncId) (fn : Func) (s : ChangeSpec) (c : OpenClaim) (k0 : (c.wf (OpenSpec.ofChange s)) = true) (k1 : (laidOutB P) = true) (k2 : (mapsRowed P) = true) (k3 : (fn.params.all (P.readableRec ·)) = true) (k4 : (namedTie P c.named s.vars) = true) (k5 : ((c.stops == [])) = true) (k6 : ((P.stops == [])) = true) (k7 : ((c.knobs == [])) = true) (k8 : ((P.stopKnobs == [])) = true) (k9 : ((c.inPlace == P.inPlace f)) = true) (k10 : ((c.unfollowed == P.unfollowed f)) = true) (k11 : ((c.recurses == P.recurses f)) = true) (k12 : ((c.named == P.varsNamed f)) = true) (k13 : ((c.maps == (fn.params.toList ++ s.plain.varTypes P).any (P.mapsRec ·))) = true) (k14 : ((c.ifaces == (fn.params.toList ++ s.plain.varTypes P).any (P.ifacesRec ·))) = true) (k15 : ((c.mapsOut == P.mapsAmong fn.resultTypes.toList)) = true) (k16 : ((c.loops == (fn.params.toList ++ s.plain.varTypes P).any (P.loopsFrom ·))) = true) (k17 : ((c.wideKeys == (fn.params.toList ++ s.plain.varTypes P ++ fn.resultTypes.toList).any (P.wideKeysFrom ·))) = true) (k18 : (s.vars.all (P.varReadable ·)) = true) (k19 : (fn.resultTypes.all (fun t => P.readableRec t && decide (t < P.types.size))) = true) (k20 : ((c.ifacesOut == fn.resultTypes.toList.any (P.ifacesRec ·))) = true) (k21 : ((c.loopsOut == fn.resultTypes.toList.any (P.loopsFrom ·))) = true) (k22 : ((c.plainKeys == P.plainKeys)) = true) (k23 : (c.shortTexts.isNone) = true) (k24 : (P.stopsHeard) = true) (k25 : (P.mayEnter) = true) (k26 : ((c.lifted == P.liftsFinal)) = true) (k27 : ((P.make == some c.make)) = true) (hd : c.domain.isEmpty = true) (k28 : (c.kinds == []) = true) (k29 : ((c.pinned == c.pinnedBy)) = true) (k30 : ((c.veiled == (fn.params.toList ++ s.plain.varTypes P ++ fn.resultTypes.toList).any (P.veiledRec ·))) = true) (k31 : (c.veiledFits P fn.params.toList (fn.params.toList ++ s.plain.varTypes P ++ fn.resultTypes.toList)) = true) : joinedFacts P f fn s c = true := by
 unfold joinedFacts
 simp only [hd, if_true, k0, k1, k2, k3, k4, k5, k6, k7, k8, k9, k10, k11, k12, k13, k14, k15, k16, k17, k18, k19, k20, k21, k22, k23, k24, k25, k26, k27, k28, k29, k30, k31, Bool.and_self]
abbrev LAID : List (String × DataW Unit) := [("math/bits.deBruijn64tab", Rows.laid_math_bits_deBruijn64tab)]
set_option maxRecDepth 100000 in
theorem lifted (os : Os) (started : os.Started) (H : Type) (enc : TypeId × Value → H) :
  ReturnsInHanded {} Tryd.checked os 5 .any (fun w args => (Rows.fnExactFewestToTakeSpec.pre enc Tryd.prog Tryd.f5 [] false w args ∧ laidMetH Tryd.prog LAID w) ∧ sizedMet enc Tryd.prog Tryd.f5 (OpenSpec.ofChange Rows.fnExactFewestToTakeSpec) false w args) (Rows.fnExactFewestToTakeSpec.post enc Tryd.prog Tryd.f5 false true false false) := by
 refine returnsInHanded_of_change_and (C := Tryd.checked) (X := fun w _ => laidMetH Tryd.prog LAID w) (fun _ _ _ hh h => h.of_heap hh) own started (by kernel_rfl) Tryd.func5 (ChangeSpec.witness_at (enc := enc) (C := Tryd.checked) (os := os) (X := fun w _ => laidMetH Tryd.prog LAID w) false (Laid.laidWorld os) #[.agg #[.int .i64 0, .int .i64 0, .slice none 0 0, .slice none 0 0]] 8 rfl (by kernel_rfl) (by kernel_rfl) (by kernel_rfl) (by kernel_rfl) (by kernel_rfl) (Laid.laidWorld_met os _)) ?_
 intro W base args ds gs before hval0 hW hcnd hsz0 hL _
 have hT : P.TB W := Laid.tb hL
 have hsz : (DataW.weightsEach Tryd.prog (Tryd.f5.params.toList ++ Rows.fnExactFewestToTakeSpec.plain.varTypes Tryd.prog) (ds ++ gs)).all (· ≤ reachBytes) = true := hsz0
 have hval : ∀ (j : Nat) t v, Tryd.f5.params[j]? = some t → args[j]? = some v → Value.okWide Tryd.prog W .any base t v := hval0
 have hW' := hW
 obtain ⟨p, q, hA0, hV, rfl, hfz, hnd⟩ := hW
 have hA : DataW.TrodAll enc Tryd.prog W 0 (fun _ => true) true Tryd.f5.params.toList args.toList ds p := hA0
 rw [Tryd.params5] at hA hval hsz
 obtain ⟨v0, vs0, d0, ds0, p0, q0, hargs, rfl, rfl, h0, r0⟩ := trodAll_cons hA
 obtain ⟨rfl, rfl, rfl⟩ := trodAll_nil r0
 obtain rfl : args = #[v0] := by cases args; simp_all
 obtain ⟨rfl, rfl⟩ := trodVars_none hV
 have k0 := h0
 have lt0 : ∀ x ∈ p0, x.block < W.heap.size := by obtain ⟨m, hm⟩ := k0; exact DataW.trod_lt m _ _ _ hm
 obtain ⟨c0, c1, c2, c3, y0, y1, y2, y3, m, rfl, rfl, rfl, hy0, hy1, hy2, hy3⟩ := open_agg4 Tryd.underlying33 (by kernel_rfl) (by kernel_rfl) (hval 0 33 v0 rfl rfl) h0
 have hsz2 : (DataW.weightsEach Tryd.prog [3, 3, 22, 22] [y0.1, y1.1, y2.1, y3.1]).all (· ≤ reachBytes) = true := by
  rw [List.all_eq_true]
  intro n hn
  exact List.all_eq_true.1 hsz n (DataW.weights_mem_each (j := 0) (t := 33) (d := .agg [y0.1, y1.1, y2.1, y3.1]) rfl rfl n (by simp only [DataW.weights, Tryd.underlying33]; exact hn))
 obtain ⟨a, e0, -, wa⟩ := DataW.trod_int Tryd.underlying3 hy0
 obtain ⟨b, e1, -, wb⟩ := DataW.trod_int Tryd.underlying3 hy1
 obtain ⟨a2, len2, cap2, z2, rfl, w2⟩ := opened hy2
 obtain ⟨a3, len3, cap3, z3, rfl, w3⟩ := opened hy3
 have z2_ : len2 * 8 ≤ 140737488351232 := sized_ints hsz2 (j := 2) (t := 22) rfl rfl Tryd.underlying22 Tryd.underlying3 (by kernel_rfl) (by kernel_rfl) (⟨m, by simpa [Value.cells] using hy2⟩ : DataW.Trod enc Tryd.prog W 0 (fun _ => true) true 22 (.slice a2 len2 cap2) y2.1 y2.2)
 have z3_ : len3 * 8 ≤ 140737488351232 := sized_ints hsz2 (j := 3) (t := 22) rfl rfl Tryd.underlying22 Tryd.underlying3 (by kernel_rfl) (by kernel_rfl) (⟨m, by simpa [Value.cells] using hy3⟩ : DataW.Trod enc Tryd.prog W 0 (fun _ => true) true 22 (.slice a3 len3 cap3) y3.1 y3.2)
 obtain rfl : c0 = .int .i64 a := by simpa using e0
 obtain rfl : c1 = .int .i64 b := by simpa using e1
 clear hA0 hval0 hsz0 hsz hsz2
 refine (walk a b a2 len2 cap2 z2 a3 len3 cap3 z3 W w2 w3 z2_ z3_ hT).mono fun e W' ⟨he, bel⟩ => ?_
 subst he
 exact ⟨_, rfl, _, _, _, [], _, [], hW', trodAll_mk1 (shut_bool Tryd.underlying4 _), (trodAll_cons_mk (Below.trod laidOut (by kernel_rfl) (of_decide_eq_true (by kernel_rfl)) k0 bel lt0) trodAll_mk0), rfl, bel.frame _, fun h => by cases h⟩
theorem k0_ : (Rows.fnExactFewestToTakeRow.wf (OpenSpec.ofChange Rows.fnExactFewestToTakeSpec)) = true := by kernel_rfl
theorem k1_ : (laidOutB Tryd.prog) = true := Closed.laidOut
theorem k2_ : (mapsRowed Tryd.prog) = true := Closed.mapsRowedP
theorem k3_ : (Tryd.f5.params.all (Tryd.prog.readableRec ·)) = true := by kernel_rfl
theorem k4_ : (namedTie Tryd.prog Rows.fnExactFewestToTakeRow.named Rows.fnExactFewestToTakeSpec.vars) = true := by kernel_rfl
theorem k5_ : ((Rows.fnExactFewestToTakeRow.stops == [])) = true := by kernel_rfl
theorem k6_ : ((Tryd.prog.stops == [])) = true := Closed.noStops
theorem k7_ : ((Rows.fnExactFewestToTakeRow.knobs == [])) = true := by kernel_rfl
theorem k8_ : ((Tryd.prog.stopKnobs == [])) = true := Closed.noKnobs
theorem k9_ : ((Rows.fnExactFewestToTakeRow.inPlace == Tryd.prog.inPlace 5)) = true := by kernel_rfl
theorem k10_ : ((Rows.fnExactFewestToTakeRow.unfollowed == Tryd.prog.unfollowed 5)) = true := by kernel_rfl
theorem k11_ : ((Rows.fnExactFewestToTakeRow.recurses == Tryd.prog.recurses 5)) = true := by kernel_rfl
theorem k12_ : ((Rows.fnExactFewestToTakeRow.named == Tryd.prog.varsNamed 5)) = true := by kernel_rfl
theorem k13_ : ((Rows.fnExactFewestToTakeRow.maps == (Tryd.f5.params.toList ++ Rows.fnExactFewestToTakeSpec.plain.varTypes Tryd.prog).any (Tryd.prog.mapsRec ·))) = true := by kernel_rfl
theorem k14_ : ((Rows.fnExactFewestToTakeRow.ifaces == (Tryd.f5.params.toList ++ Rows.fnExactFewestToTakeSpec.plain.varTypes Tryd.prog).any (Tryd.prog.ifacesRec ·))) = true := by kernel_rfl
theorem k15_ : ((Rows.fnExactFewestToTakeRow.mapsOut == Tryd.prog.mapsAmong Tryd.f5.resultTypes.toList)) = true := by kernel_rfl
theorem k16_ : ((Rows.fnExactFewestToTakeRow.loops == (Tryd.f5.params.toList ++ Rows.fnExactFewestToTakeSpec.plain.varTypes Tryd.prog).any (Tryd.prog.loopsFrom ·))) = true := by kernel_rfl
theorem k17_ : ((Rows.fnExactFewestToTakeRow.wideKeys == (Tryd.f5.params.toList ++ Rows.fnExactFewestToTakeSpec.plain.varTypes Tryd.prog ++ Tryd.f5.resultTypes.toList).any (Tryd.prog.wideKeysFrom ·))) = true := by kernel_rfl
theorem k18_ : (Rows.fnExactFewestToTakeSpec.vars.all (Tryd.prog.varReadable ·)) = true := by kernel_rfl
theorem k19_ : (Tryd.f5.resultTypes.all (fun t => Tryd.prog.readableRec t && decide (t < Tryd.prog.types.size))) = true := by kernel_rfl
theorem k20_ : ((Rows.fnExactFewestToTakeRow.ifacesOut == Tryd.f5.resultTypes.toList.any (Tryd.prog.ifacesRec ·))) = true := by kernel_rfl
theorem k21_ : ((Rows.fnExactFewestToTakeRow.loopsOut == Tryd.f5.resultTypes.toList.any (Tryd.prog.loopsFrom ·))) = true := by kernel_rfl
theorem k22_ : ((Rows.fnExactFewestToTakeRow.plainKeys == Tryd.prog.plainKeys)) = true := by kernel_rfl
theorem k23_ : (Rows.fnExactFewestToTakeRow.shortTexts.isNone) = true := by kernel_rfl
theorem k24_ : (Tryd.prog.stopsHeard) = true := Closed.stopsHeard
theorem k25_ : (Tryd.prog.mayEnter) = true := Closed.mayEnter
theorem k26_ : ((Rows.fnExactFewestToTakeRow.lifted == Tryd.prog.liftsFinal)) = true := by rw [Closed.liftsFinal]; kernel_rfl
theorem k27_ : ((Tryd.prog.make == some Rows.fnExactFewestToTakeRow.make)) = true := by rw [Closed.make]; kernel_rfl
theorem k28_ : ((Rows.fnExactFewestToTakeRow.kinds == [])) = true := by kernel_rfl
theorem k29_ : ((Rows.fnExactFewestToTakeRow.pinned == Rows.fnExactFewestToTakeRow.pinnedBy)) = true := by kernel_rfl
theorem k30_ : ((Rows.fnExactFewestToTakeRow.veiled == (Tryd.f5.params.toList ++ Rows.fnExactFewestToTakeSpec.plain.varTypes Tryd.prog ++ Tryd.f5.resultTypes.toList).any (Tryd.prog.veiledRec ·))) = true := by kernel_rfl
theorem k31_ : (Rows.fnExactFewestToTakeRow.veiledFits Tryd.prog Tryd.f5.params.toList (Tryd.f5.params.toList ++ Rows.fnExactFewestToTakeSpec.plain.varTypes Tryd.prog ++ Tryd.f5.resultTypes.toList)) = true := by kernel_rfl
theorem k99_ : (Rows.fnExactFewestToTakeRow.domain.isEmpty) = true := by kernel_rfl
theorem closed : joinedFacts Tryd.prog 5 Tryd.f5 Rows.fnExactFewestToTakeSpec Rows.fnExactFewestToTakeRow = true :=
 joined_mk _ _ _ _ _ k0_ k1_ k2_ k3_ k4_ k5_ k6_ k7_ k8_ k9_ k10_ k11_ k12_ k13_ k14_ k15_ k16_ k17_ k18_ k19_ k20_ k21_ k22_ k23_ k24_ k25_ k26_ k27_ k99_ k28_ k29_ k30_ k31_
theorem over : Rows.fnExactFewestToTakeRow.holds Tryd.pinned (OpenSpec.ofChange Rows.fnExactFewestToTakeSpec) :=
 OpenClaim.holds_of_wide 5 Tryd.f5 rfl rfl rfl rfl rfl rfl rfl ⟨rfl, rfl, rfl, rfl, rfl⟩ rfl rfl rfl rfl rfl (by kernel_rfl) Tryd.func5 closed
  (of_decide_eq_true (by kernel_rfl)) (by unfold Func.isWrapper; first | (rw [if_pos (by decide +kernel)]; kernel_rfl) | (rw [if_neg (by decide +kernel)]; exact ⟨rfl, rfl⟩))
  (fun os started H enc _ => lifted os started H enc)
theorem card : Rows.FnExactFewestToTakeCardSaid :=
 Claim7.holds_tied_plain_at .later [] [.data] true (true, "51a81812d70b6a8fa3f4660c1a3f95587944b71932d92a023d035a6397cb1daa") false
  over (fun _ h => by cases h) (by kernel_rfl) (fun _ h => by cases h) fnExactFewestToTake_row_tie rfl ⟨rfl, rfl⟩ (by kernel_rfl) rfl
  (fun f fn hf hfn => by
   obtain rfl : f = 5 := Option.some.inj ((show Tryd.prog.funcNamed "loop.example/g01233/laws.FnExactFewestToTake" = some 5 by kernel_rfl).symm.trans hf) |>.symm
   obtain rfl : fn = Tryd.f5 := (Option.some.inj (Tryd.func5.symm.trans hfn)).symm
   exact ⟨by kernel_rfl, fun j t ht => by
    rw [Tryd.params5] at ht
    have h3 : t = 33 := by
     rcases j with _ | j
     ·simpa using ht.symm
     ·simp at ht
    subst h3
    exact (show Tryd.prog.wantsStandIn 33 = false by kernel_rfl)⟩)
  (by kernel_rfl)
end Go.Proofs.YtehjfaddhmdicaaDoor.fnExactFewestToTake
namespace Go.Proofs.YtehjfaddhmdicaaDoor
theorem fnExactFewestToTake_holds : Rows.FnExactFewestToTakeCardSaid := fnExactFewestToTake.card
end Go.Proofs.YtehjfaddhmdicaaDoor
