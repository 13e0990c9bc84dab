/- For every input the law FnExactIsStroke answers true: the program's IsStroke tells what the reference's IsStroke tells; no condition. (part 5 of the proof; the words of the kit's print tool and the texts of this seat, merged by a program) -/
import Derived.Below
import Derived.ChangeOld
import Derived.FnData
import Derived.Handed
import Derived.JoinedOf
import Derived.LaidHandle
import Derived.LaidLaws
import Derived.Lib.Join
import Derived.Lib.SlTrimSet
import Derived.Lib.SmallJoins
import Derived.OpenShut
import Derived.ProofKit
import Derived.SevenTiedAt
import Derived.ShutString
import Derived.SizedLaws
import Derived.Test.YteaglkpplgbpaaaDoorCards
import Derived.Test.YteaglkpplgbpaaaDoorClosed
import Derived.Test.YteaglkpplgbpaaaDoorRows
import Derived.Test.YteaglkpplgbpaaaDoorTie
import Derived.WalkKit
import Derived.Test.YteaglkpplgbpaaaDoorMIS4
namespace Go.Proofs.YteaglkpplgbpaaaDoor.P
open Go.RowKit Go.Proofs.YteaglkpplgbpaaaDoorW.PrintWords Go.Proofs.YteaglkpplgbpaaaDoorW.PrintLast Go.Proofs.YteaglkpplgbpaaaDoorW.PrintMore
attribute [local go_sem] max2_int min2_int max_two min_two max_three min_three max_four min_four   -- for this text's walks alone
set_option linter.unusedVariables false
set_option linter.unusedSimpArgs false

mutual
def spec_IsStroke.j0 : Nat → ByteArray → Bool → Int → Int → List Int → List Int → Int → Int → Option (Bool × Bool)
 | 0, _, _, _, _, _, _, _, _ => none
 | k + 1, x2, x24, x348000, x348001, x348002, x348003, x349000, x349001 => if x24 = true then (some (false, false)) else (spec_IsStroke.l0 k x2 0 x348000 x348001 x348002 x348003 x349000 x349001)
def spec_IsStroke.l0 : Nat → ByteArray → Int → Int → Int → List Int → List Int → Int → Int → Option (Bool × Bool)
 | 0, _, _, _, _, _, _, _, _ => none
 | k + 1, x2, x8, x348000, x348001, x348002, x348003, x349000, x349001 => if x8 < (x2.size : Int) then (if 0 ≤ x8 then (if (bt x2 x8) = 110 then (spec_IsStroke.l0 k x2 (wrap64 (x8 + 1)) x348000 x348001 x348002 x348003 x349000 x349001) else (if (bt x2 x8) = 101 then (spec_IsStroke.l0 k x2 (wrap64 (x8 + 1)) x348000 x348001 x348002 x348003 x349000 x349001) else (if (bt x2 x8) = 115 then (spec_IsStroke.l0 k x2 (wrap64 (x8 + 1)) x348000 x348001 x348002 x348003 x349000 x349001) else (if (bt x2 x8) = 119 then (spec_IsStroke.l0 k x2 (wrap64 (x8 + 1)) x348000 x348001 x348002 x348003 x349000 x349001) else (some (false, false)))))) else (none)) else ((spec_liDraw.f k x348000 x348001 x349000 x349001 x2).bind fun bt351 => (if bt351.2.2.2.2 = true then ((spec_fiText.f k bt351.1 bt351.2.1 bt351.2.2.1 bt351.2.2.2.1).bind fun t361 => ((spec_fiText.f k x348000 x348001 x348002 x348003).bind fun t362 => (some ((t361.toList == t362.toList), true)))) else (some (false, true))))
end
def spec_IsStroke.f (k : Nat) (a0_0 : Int) (a0_1 : Int) (l0_2 : List Int) (l0_3 : List Int) (a1_0 : Int) (a1_1 : Int) (a2 : ByteArray) : Option (Bool × Bool) := (spec_fiGood.f k a0_0 a0_1 l0_2 l0_3).bind fun t349 => (if t349 = true then ((spec_liCorner.f a0_0 a0_1 l0_2 l0_3 a1_0 a1_1).bind fun t350 => (if t350 = true then (spec_IsStroke.j0 k a2 (decide ((a2.size : Int) > 40)) a0_0 a0_1 l0_2 l0_3 a1_0 a1_1) else (spec_IsStroke.j0 k a2 true a0_0 a0_1 l0_2 l0_3 a1_0 a1_1))) else (spec_IsStroke.j0 k a2 true a0_0 a0_1 l0_2 l0_3 a1_0 a1_1))
theorem spec_IsStroke.mono_l : ∀ k, (∀ y0 y1 y2 y3 y4 y5 y6 y7, LeO (spec_IsStroke.j0 k y0 y1 y2 y3 y4 y5 y6 y7) (spec_IsStroke.j0 (k + 1) y0 y1 y2 y3 y4 y5 y6 y7)) ∧ (∀ y0 y1 y2 y3 y4 y5 y6 y7, LeO (spec_IsStroke.l0 k y0 y1 y2 y3 y4 y5 y6 y7) (spec_IsStroke.l0 (k + 1) y0 y1 y2 y3 y4 y5 y6 y7))
 | 0 => ⟨fun _ _ _ _ _ _ _ _ r h => by simp [spec_IsStroke.j0] at h, fun _ _ _ _ _ _ _ _ r h => by simp [spec_IsStroke.l0] at h⟩
 | k + 1 => by
  obtain ⟨ih0, ih1⟩ := spec_IsStroke.mono_l k
  refine ⟨?_, ?_⟩
  ·intro y0 y1 y2 y3 y4 y5 y6 y7
   unfold spec_IsStroke.j0
   repeat' first
   | (with_reducible exact ih0 _ _ _ _ _ _ _ _)
   | (with_reducible exact ih1 _ _ _ _ _ _ _ _)
   | (with_reducible exact spec_fiGood.mono _ _ _ _ _)
   | (with_reducible exact spec_fiText.mono _ _ _ _ _)
   | (with_reducible exact spec_liDraw.mono _ _ _ _ _ _)
   | (with_reducible exact LeO.refl _)
   | (with_reducible exact LeO.none _)
   | (with_reducible refine LeO.ite ?_ ?_)
   | (with_reducible refine LeO.bind ?_ (fun _ => ?_))
   | exact ih0 _ _ _ _ _ _ _ _
   | exact ih1 _ _ _ _ _ _ _ _
   | exact spec_fiGood.mono _ _ _ _ _
   | exact spec_fiText.mono _ _ _ _ _
   | exact spec_liDraw.mono _ _ _ _ _ _
   | exact LeO.none _
   | refine LeO.ite ?_ ?_
   | refine LeO.bind ?_ (fun _ => ?_)
  ·intro y0 y1 y2 y3 y4 y5 y6 y7
   unfold spec_IsStroke.l0
   repeat' first
   | (with_reducible exact ih0 _ _ _ _ _ _ _ _)
   | (with_reducible exact ih1 _ _ _ _ _ _ _ _)
   | (with_reducible exact spec_fiGood.mono _ _ _ _ _)
   | (with_reducible exact spec_fiText.mono _ _ _ _ _)
   | (with_reducible exact spec_liDraw.mono _ _ _ _ _ _)
   | (with_reducible exact LeO.refl _)
   | (with_reducible exact LeO.none _)
   | (with_reducible refine LeO.ite ?_ ?_)
   | (with_reducible refine LeO.bind ?_ (fun _ => ?_))
   | exact ih0 _ _ _ _ _ _ _ _
   | exact ih1 _ _ _ _ _ _ _ _
   | exact spec_fiGood.mono _ _ _ _ _
   | exact spec_fiText.mono _ _ _ _ _
   | exact spec_liDraw.mono _ _ _ _ _ _
   | exact LeO.none _
   | refine LeO.ite ?_ ?_
   | refine LeO.bind ?_ (fun _ => ?_)
theorem spec_IsStroke.mono : ∀ a0 a1 a2 a3 a4 a5 a6 k, LeO (spec_IsStroke.f k a0 a1 a2 a3 a4 a5 a6) (spec_IsStroke.f (k + 1) a0 a1 a2 a3 a4 a5 a6) := by
 intro a0 a1 a2 a3 a4 a5 a6 k
 obtain ⟨ih0, ih1⟩ := spec_IsStroke.mono_l k
 unfold spec_IsStroke.f
 repeat' first
   | (with_reducible exact ih0 _ _ _ _ _ _ _ _)
   | (with_reducible exact ih1 _ _ _ _ _ _ _ _)
   | (with_reducible exact spec_fiGood.mono _ _ _ _ _)
   | (with_reducible exact spec_fiText.mono _ _ _ _ _)
   | (with_reducible exact spec_liDraw.mono _ _ _ _ _ _)
   | (with_reducible exact LeO.refl _)
   | (with_reducible exact LeO.none _)
   | (with_reducible refine LeO.ite ?_ ?_)
   | (with_reducible refine LeO.bind ?_ (fun _ => ?_))
   | exact ih0 _ _ _ _ _ _ _ _
   | exact ih1 _ _ _ _ _ _ _ _
   | exact spec_fiGood.mono _ _ _ _ _
   | exact spec_fiText.mono _ _ _ _ _
   | exact spec_liDraw.mono _ _ _ _ _ _
   | exact LeO.none _
   | refine LeO.ite ?_ ?_
   | refine LeO.bind ?_ (fun _ => ?_)
def spec_IsStroke.T9 : Bool × List (List Nat × List Nat) := (true, [([], []), ([0], [0]), ([1], [1]), ([2, 1, 1], [1, 2]), ([1], [1]), ([4, 3, 1], [1, 4]), ([3, 5, 1], [1, 3, 5]), ([1, 6], [1, 6]), ([7, 5, 0, 1, 2, 3, 4, 5, 6, 7], [7]), ([8, 0, 1, 2, 3, 4, 5, 6, 7, 8], [])])
def spec_IsStroke.B9 : List Nat := [0, 1, 3, 7, 3, 31, 63, 127, 255, 511]
theorem spec_IsStroke.tab9 : rtab .any (opsOf Tryd.f5 9) = spec_IsStroke.T9 := by kernel_rfl
theorem spec_IsStroke.bits9 : waitsOk spec_IsStroke.T9.2 spec_IsStroke.B9 = true := by kernel_rfl
set_option maxHeartbeats 8000000 in
set_option maxRecDepth 100000 in
theorem spec_IsStroke.calls (k : Nat) (a0_0 : Int) (a0_1 : Int) (A0_2 : Option Addr) (c0_2 : Nat) (l0_2 : List Int) (A0_3 : Option Addr) (c0_3 : Nat) (l0_3 : List Int) (a1_0 : Int) (a1_1 : Int) (a2 : ByteArray) (r1 : Bool) (r2 : Bool) (w : World) (hr0_2 : Kd.C (Kd.int .i64) w A0_2 l0_2.length l0_2) (hc0_2 : l0_2.length ≤ c0_2) (hr0_3 : Kd.C (Kd.int .i64) w A0_3 l0_3.length l0_3) (hc0_3 : l0_3.length ≤ c0_3) (h : spec_IsStroke.f k a0_0 a0_1 l0_2 l0_3 a1_0 a1_1 a2 = some (r1, r2)) :
  Calls Tryd.prog 5 #[.agg #[.int .i64 a0_0, .int .i64 a0_1, .slice A0_2 l0_2.length c0_2, .slice A0_3 l0_3.length c0_3], .agg #[.int .i64 a1_0, .int .i64 a1_1], .string a2] w fun e w' => e = .returned (.tuple #[.bool r1, .bool r2]) ∧ Below w.heap.size w w' := by
 have hu30 := Tryd.underlying30
 have hu32 := Tryd.underlying32
 have HR0_2 := Aside0.mk hr0_2
 have HC0_2 := Aside0.mk hc0_2
 clear hr0_2 hc0_2
 have HR0_3 := Aside0.mk hr0_3
 have HC0_3 := Aside0.mk hc0_3
 clear hr0_3 hc0_3
 have HB := Aside0.mk (Below.refl w.heap.size w)
 have H : ((spec_fiGood.f k a0_0 a0_1 l0_2 l0_3).bind fun t349 => (if t349 = true then ((spec_liCorner.f a0_0 a0_1 l0_2 l0_3 a1_0 a1_1).bind fun t350 => (if t350 = true then (spec_IsStroke.j0 k a2 (decide ((a2.size : Int) > 40)) a0_0 a0_1 l0_2 l0_3 a1_0 a1_1) else (spec_IsStroke.j0 k a2 true a0_0 a0_1 l0_2 l0_3 a1_0 a1_1))) else (spec_IsStroke.j0 k a2 true a0_0 a0_1 l0_2 l0_3 a1_0 a1_1))) = some (r1, r2) := h
 clear h
 have HC4 := Aside0.mk H
 clear H
 go_enter Tryd.func5, Tryd.ntmps5
 go_upto_region 1 with (first | ((with_reducible refine gate_dst (N := 3) rfl ?_); (try (refine gate_guard (by rfl) ?_; dsimp only)); refine boxE_ (N := 3) (cs := #[.int .i64 a0_0, .int .i64 a0_1, .slice A0_2 l0_2.length c0_2, .slice A0_3 l0_3.length c0_3]) (t := 30) ?_; intro gb347 hg w5 hbox hb; have n0_ := Aside0.mk (below_step (bl0_ HB.out) hb); have n1_ := Aside0.mk (hbox); have n2_ := Aside0.mk ((bs0_ hg HB.out : w.heap.size ≤ gb347)); have n3_ := Aside0.mk ((bs0_ hg HB.out : w.heap.size ≤ gb347)); clear HB; have HB := n0_; have BK347 := n1_; have GW347 := n2_; have GE347 := n3_; clear n0_ n1_ n2_ n3_; clear hb hbox hg) | ((with_reducible refine gate_dst (N := 4) rfl ?_); (try (refine gate_guard (by rfl) ?_; dsimp only)); refine boxE_ (N := 4) (cs := #[.int .i64 a1_0, .int .i64 a1_1]) (t := 32) ?_; intro gb348 hg w6 hbox hb; have n0_ := Aside0.mk (bb_ BK347.out hb); have n1_ := Aside0.mk (below_step (bl1_ HB.out GE347.out) hb); have n2_ := Aside0.mk (hbox); have n3_ := Aside0.mk ((bs1_ hg HB.out GE347.out : w.heap.size ≤ gb348)); have n4_ := Aside0.mk ((bs1_ hg HB.out GE347.out : w.heap.size ≤ gb348)); have n5_ := Aside0.mk ((nl_ hg BK347.out : gb347 ≠ gb348)); have n6_ := Aside0.mk ((ng_ hg BK347.out : gb348 ≠ gb347)); clear BK347; clear HB; have BK347 := n0_; have HB := n1_; have BK348 := n2_; have GW348 := n3_; have GE348 := n4_; have NB347_348 := n5_; have NB348_347 := n6_; clear n0_ n1_ n2_ n3_ n4_ n5_ n6_; clear hb hbox hg))
 (try simp only [Act.put, List.setIfInBounds_toArray, List.set_cons_zero, List.set_cons_succ])
 go_cut [24] (fun v24 wc => ∃ (kq : Nat) (x24_3 : Bool), v24 = .bool x24_3 ∧ Aside0 (spec_IsStroke.j0 kq a2 x24_3 a0_0 a0_1 l0_2 l0_3 a1_0 a1_1 = some (r1, r2)) ∧ Aside0 (kq ≤ k) ∧ Aside0 (wc.heap[gb347]? = some (.cells #[.int .i64 a0_0, .int .i64 a0_1, (.slice A0_2 l0_2.length c0_2), (.slice A0_3 l0_3.length c0_3)] 30 (0, 0))) ∧ Aside0 (wc.heap[gb348]? = some (.cells #[.int .i64 a1_0, .int .i64 a1_1] 32 (0, 0))) ∧ Aside0 (Below w.heap.size w wc))
 case first =>
  have H := HC4.out
  clear HC4
  replace H := Option.bind_eq_some_iff.mp H
  obtain ⟨t349, A70, H⟩ := H
  replace H : (if t349 = true then ((spec_liCorner.f a0_0 a0_1 l0_2 l0_3 a1_0 a1_1).bind fun t350 => (if t350 = true then (spec_IsStroke.j0 k a2 (decide ((a2.size : Int) > 40)) a0_0 a0_1 l0_2 l0_3 a1_0 a1_1) else (spec_IsStroke.j0 k a2 true a0_0 a0_1 l0_2 l0_3 a1_0 a1_1))) else (spec_IsStroke.j0 k a2 true a0_0 a0_1 l0_2 l0_3 a1_0 a1_1)) = some (r1, r2) := H
  have A7 := Aside0.mk A70
  clear A70
  by_cases c8 : t349 = true
  ·subst c8
   have H1 : ((spec_liCorner.f a0_0 a0_1 l0_2 l0_3 a1_0 a1_1).bind fun t350 => (if t350 = true then (spec_IsStroke.j0 k a2 (decide ((a2.size : Int) > 40)) a0_0 a0_1 l0_2 l0_3 a1_0 a1_1) else (spec_IsStroke.j0 k a2 true a0_0 a0_1 l0_2 l0_3 a1_0 a1_1))) = some (r1, r2) := by rw [if_pos rfl] at H; exact H
   clear H
   have H := H1
   clear H1
   replace H := Option.bind_eq_some_iff.mp H
   obtain ⟨t350, A90, H⟩ := H
   replace H : (if t350 = true then (spec_IsStroke.j0 k a2 (decide ((a2.size : Int) > 40)) a0_0 a0_1 l0_2 l0_3 a1_0 a1_1) else (spec_IsStroke.j0 k a2 true a0_0 a0_1 l0_2 l0_3 a1_0 a1_1)) = some (r1, r2) := H
   have A9 := Aside0.mk A90
   clear A90
   by_cases c10 : t350 = true
   ·subst c10
    have H1 : (spec_IsStroke.j0 k a2 (decide ((a2.size : Int) > 40)) a0_0 a0_1 l0_2 l0_3 a1_0 a1_1) = some (r1, r2) := by rw [if_pos rfl] at H; exact H
    clear H
    have H := H1
    clear H1
    have H' := Aside0.mk H
    clear H
    have hnb11 := NB347_348.out
    have hnc11 := NB348_347.out
    have hcz12_0 : w6.cell? ⟨gb347, 0, none⟩ = some (.int .i64 a0_0) := (blk_cell BK347.out 0).trans rfl
    have hcz12_1 : w6.cell? ⟨gb347, 1, none⟩ = some (.int .i64 a0_1) := (blk_cell BK347.out 1).trans rfl
    have hcz12_2 : w6.cell? ⟨gb347, 2, none⟩ = some (.slice A0_2 l0_2.length c0_2) := (blk_cell BK347.out 2).trans rfl
    have hcz12_3 : w6.cell? ⟨gb347, 3, none⟩ = some (.slice A0_3 l0_3.length c0_3) := (blk_cell BK347.out 3).trans rfl
    have hfz12_0 := blk_frozen BK347.out 0
    have hfz12_1 := blk_frozen BK347.out 1
    have hfz12_2 := blk_frozen BK347.out 2
    have hfz12_3 := blk_frozen BK347.out 3
    go_wp2_with (first | ((with_reducible refine gate_callee (f := 11) rfl ?_); refine goesL_ (some 12) rfl rfl Tryd.func11 (by kernel_rfl) rfl #[.agg #[.int .i64 a0_0, .int .i64 a0_1, .slice A0_2 l0_2.length c0_2, .slice A0_3 l0_3.length c0_3]] rfl ob_ ?_; (with_reducible refine (spec_fiGood.calls k a0_0 a0_1 _ _ l0_2 _ _ l0_3 true _ ?side1 ?side2 ?side3 ?side4 A7.out).mono ?_); (case side1 => exact kc_ (Kd.C_below HR0_2.out HB.out)); (case side2 => exact HC0_2.out); (case side3 => exact kc_ (Kd.C_below HR0_3.out HB.out)); (case side4 => exact HC0_3.out); rintro e w13 ⟨rfl, hb⟩; refine ⟨_, rfl, ?_⟩; have n0_ := Aside0.mk (bb_ BK347.out hb); have n1_ := Aside0.mk (bb_ BK348.out hb); have n2_ := Aside0.mk (below_step (bl2_ HB.out GE347.out GE348.out) hb); clear BK347; clear BK348; clear HB; have BK347 := n0_; have BK348 := n1_; have HB := n2_; clear n0_ n1_ n2_; (try clear hb); (try clear hb2); (try clear hk); (try clear hi); have hcz14_0 : w13.cell? ⟨gb347, 0, none⟩ = some (.int .i64 a0_0) := (blk_cell BK347.out 0).trans rfl; have hcz14_1 : w13.cell? ⟨gb347, 1, none⟩ = some (.int .i64 a0_1) := (blk_cell BK347.out 1).trans rfl; have hcz14_2 : w13.cell? ⟨gb347, 2, none⟩ = some (.slice A0_2 l0_2.length c0_2) := (blk_cell BK347.out 2).trans rfl; have hcz14_3 : w13.cell? ⟨gb347, 3, none⟩ = some (.slice A0_3 l0_3.length c0_3) := (blk_cell BK347.out 3).trans rfl; have hfz14_0 := blk_frozen BK347.out 0; have hfz14_1 := blk_frozen BK347.out 1; have hfz14_2 := blk_frozen BK347.out 2; have hfz14_3 := blk_frozen BK347.out 3; have hcz15_0 : w13.cell? ⟨gb348, 0, none⟩ = some (.int .i64 a1_0) := (blk_cell BK348.out 0).trans rfl; have hcz15_1 : w13.cell? ⟨gb348, 1, none⟩ = some (.int .i64 a1_1) := (blk_cell BK348.out 1).trans rfl; have hfz15_0 := blk_frozen BK348.out 0; have hfz15_1 := blk_frozen BK348.out 1) | (go_at_call 12; (with_reducible refine (spec_liCorner.calls a0_0 a0_1 _ _ l0_2 _ _ l0_3 a1_0 a1_1 true _ ?side1 ?side2 ?side3 ?side4 A9.out).mono ?_); (case side1 => exact kc_ (Kd.C_below HR0_2.out HB.out)); (case side2 => exact HC0_2.out); (case side3 => exact kc_ (Kd.C_below HR0_3.out HB.out)); (case side4 => exact HC0_3.out); rintro e w16 ⟨rfl, hb⟩; have n0_ := Aside0.mk (bb_ BK347.out hb); have n1_ := Aside0.mk (bb_ BK348.out hb); have n2_ := Aside0.mk (below_step (bl2_ HB.out GE347.out GE348.out) hb); clear BK347; clear BK348; clear HB; have BK347 := n0_; have BK348 := n1_; have HB := n2_; clear n0_ n1_ n2_; (try clear hb); (try clear hb2); (try clear hk); (try clear hi)))
    go_meet
    case rel => exact ⟨_, (decide ((a2.size : Int) > 40)), rs_, H', ⟨by first | omega | exact Nat.le_refl _⟩, ⟨bk_ BK347.out⟩, ⟨bk_ BK348.out⟩, ⟨bl2_ HB.out GE347.out GE348.out⟩⟩
   ·replace c10 := Bool.eq_false_iff.mpr c10
    subst c10
    have H1 : (spec_IsStroke.j0 k a2 true a0_0 a0_1 l0_2 l0_3 a1_0 a1_1) = some (r1, r2) := by rw [if_neg (show ¬ (false = true) by decide)] at H; exact H
    clear H
    have H := H1
    clear H1
    have H' := Aside0.mk H
    clear H
    have hnb17 := NB347_348.out
    have hnc17 := NB348_347.out
    have hcz18_0 : w6.cell? ⟨gb347, 0, none⟩ = some (.int .i64 a0_0) := (blk_cell BK347.out 0).trans rfl
    have hcz18_1 : w6.cell? ⟨gb347, 1, none⟩ = some (.int .i64 a0_1) := (blk_cell BK347.out 1).trans rfl
    have hcz18_2 : w6.cell? ⟨gb347, 2, none⟩ = some (.slice A0_2 l0_2.length c0_2) := (blk_cell BK347.out 2).trans rfl
    have hcz18_3 : w6.cell? ⟨gb347, 3, none⟩ = some (.slice A0_3 l0_3.length c0_3) := (blk_cell BK347.out 3).trans rfl
    have hfz18_0 := blk_frozen BK347.out 0
    have hfz18_1 := blk_frozen BK347.out 1
    have hfz18_2 := blk_frozen BK347.out 2
    have hfz18_3 := blk_frozen BK347.out 3
    go_wp2_with (first | ((with_reducible refine gate_callee (f := 11) rfl ?_); refine goesL_ (some 12) rfl rfl Tryd.func11 (by kernel_rfl) rfl #[.agg #[.int .i64 a0_0, .int .i64 a0_1, .slice A0_2 l0_2.length c0_2, .slice A0_3 l0_3.length c0_3]] rfl ob_ ?_; (with_reducible refine (spec_fiGood.calls k a0_0 a0_1 _ _ l0_2 _ _ l0_3 true _ ?side1 ?side2 ?side3 ?side4 A7.out).mono ?_); (case side1 => exact kc_ (Kd.C_below HR0_2.out HB.out)); (case side2 => exact HC0_2.out); (case side3 => exact kc_ (Kd.C_below HR0_3.out HB.out)); (case side4 => exact HC0_3.out); rintro e w19 ⟨rfl, hb⟩; refine ⟨_, rfl, ?_⟩; have n0_ := Aside0.mk (bb_ BK347.out hb); have n1_ := Aside0.mk (bb_ BK348.out hb); have n2_ := Aside0.mk (below_step (bl2_ HB.out GE347.out GE348.out) hb); clear BK347; clear BK348; clear HB; have BK347 := n0_; have BK348 := n1_; have HB := n2_; clear n0_ n1_ n2_; (try clear hb); (try clear hb2); (try clear hk); (try clear hi); have hcz20_0 : w19.cell? ⟨gb347, 0, none⟩ = some (.int .i64 a0_0) := (blk_cell BK347.out 0).trans rfl; have hcz20_1 : w19.cell? ⟨gb347, 1, none⟩ = some (.int .i64 a0_1) := (blk_cell BK347.out 1).trans rfl; have hcz20_2 : w19.cell? ⟨gb347, 2, none⟩ = some (.slice A0_2 l0_2.length c0_2) := (blk_cell BK347.out 2).trans rfl; have hcz20_3 : w19.cell? ⟨gb347, 3, none⟩ = some (.slice A0_3 l0_3.length c0_3) := (blk_cell BK347.out 3).trans rfl; have hfz20_0 := blk_frozen BK347.out 0; have hfz20_1 := blk_frozen BK347.out 1; have hfz20_2 := blk_frozen BK347.out 2; have hfz20_3 := blk_frozen BK347.out 3; have hcz21_0 : w19.cell? ⟨gb348, 0, none⟩ = some (.int .i64 a1_0) := (blk_cell BK348.out 0).trans rfl; have hcz21_1 : w19.cell? ⟨gb348, 1, none⟩ = some (.int .i64 a1_1) := (blk_cell BK348.out 1).trans rfl; have hfz21_0 := blk_frozen BK348.out 0; have hfz21_1 := blk_frozen BK348.out 1) | (go_at_call 12; (with_reducible refine (spec_liCorner.calls a0_0 a0_1 _ _ l0_2 _ _ l0_3 a1_0 a1_1 false _ ?side1 ?side2 ?side3 ?side4 A9.out).mono ?_); (case side1 => exact kc_ (Kd.C_below HR0_2.out HB.out)); (case side2 => exact HC0_2.out); (case side3 => exact kc_ (Kd.C_below HR0_3.out HB.out)); (case side4 => exact HC0_3.out); rintro e w22 ⟨rfl, hb⟩; have n0_ := Aside0.mk (bb_ BK347.out hb); have n1_ := Aside0.mk (bb_ BK348.out hb); have n2_ := Aside0.mk (below_step (bl2_ HB.out GE347.out GE348.out) hb); clear BK347; clear BK348; clear HB; have BK347 := n0_; have BK348 := n1_; have HB := n2_; clear n0_ n1_ n2_; (try clear hb); (try clear hb2); (try clear hk); (try clear hi)))
    go_meet
    case rel => exact ⟨_, (true), rs_, H', ⟨by first | omega | exact Nat.le_refl _⟩, ⟨bk_ BK347.out⟩, ⟨bk_ BK348.out⟩, ⟨bl2_ HB.out GE347.out GE348.out⟩⟩
  ·replace c8 := Bool.eq_false_iff.mpr c8
   subst c8
   have H1 : (spec_IsStroke.j0 k a2 true a0_0 a0_1 l0_2 l0_3 a1_0 a1_1) = some (r1, r2) := by rw [if_neg (show ¬ (false = true) by decide)] at H; exact H
   clear H
   have H := H1
   clear H1
   have H' := Aside0.mk H
   clear H
   have hnb23 := NB347_348.out
   have hnc23 := NB348_347.out
   have hcz24_0 : w6.cell? ⟨gb347, 0, none⟩ = some (.int .i64 a0_0) := (blk_cell BK347.out 0).trans rfl
   have hcz24_1 : w6.cell? ⟨gb347, 1, none⟩ = some (.int .i64 a0_1) := (blk_cell BK347.out 1).trans rfl
   have hcz24_2 : w6.cell? ⟨gb347, 2, none⟩ = some (.slice A0_2 l0_2.length c0_2) := (blk_cell BK347.out 2).trans rfl
   have hcz24_3 : w6.cell? ⟨gb347, 3, none⟩ = some (.slice A0_3 l0_3.length c0_3) := (blk_cell BK347.out 3).trans rfl
   have hfz24_0 := blk_frozen BK347.out 0
   have hfz24_1 := blk_frozen BK347.out 1
   have hfz24_2 := blk_frozen BK347.out 2
   have hfz24_3 := blk_frozen BK347.out 3
   go_wp2_with (first | ((with_reducible refine gate_callee (f := 11) rfl ?_); refine goesL_ (some 12) rfl rfl Tryd.func11 (by kernel_rfl) rfl #[.agg #[.int .i64 a0_0, .int .i64 a0_1, .slice A0_2 l0_2.length c0_2, .slice A0_3 l0_3.length c0_3]] rfl ob_ ?_; (with_reducible refine (spec_fiGood.calls k a0_0 a0_1 _ _ l0_2 _ _ l0_3 false _ ?side1 ?side2 ?side3 ?side4 A7.out).mono ?_); (case side1 => exact kc_ (Kd.C_below HR0_2.out HB.out)); (case side2 => exact HC0_2.out); (case side3 => exact kc_ (Kd.C_below HR0_3.out HB.out)); (case side4 => exact HC0_3.out); rintro e w25 ⟨rfl, hb⟩; refine ⟨_, rfl, ?_⟩; have n0_ := Aside0.mk (bb_ BK347.out hb); have n1_ := Aside0.mk (bb_ BK348.out hb); have n2_ := Aside0.mk (below_step (bl2_ HB.out GE347.out GE348.out) hb); clear BK347; clear BK348; clear HB; have BK347 := n0_; have BK348 := n1_; have HB := n2_; clear n0_ n1_ n2_; (try clear hb); (try clear hb2); (try clear hk); (try clear hi)))
   go_meet
   case rel => exact ⟨_, (true), rs_, H', ⟨by first | omega | exact Nat.le_refl _⟩, ⟨bk_ BK347.out⟩, ⟨bk_ BK348.out⟩, ⟨bl2_ HB.out GE347.out GE348.out⟩⟩
 case rest =>
  clear HC4
  try clear c1
  try clear c2
  try clear p2
  try clear c5
  try clear c8
  try clear c10
  try clear c11
  try clear c17
  try clear c23
  try clear hcz12_0
  try clear hcz12_1
  try clear hcz12_2
  try clear hcz12_3
  try clear hcz14_0
  try clear hcz14_1
  try clear hcz14_2
  try clear hcz14_3
  try clear hcz15_0
  try clear hcz15_1
  try clear hcz18_0
  try clear hcz18_1
  try clear hcz18_2
  try clear hcz18_3
  try clear hcz20_0
  try clear hcz20_1
  try clear hcz20_2
  try clear hcz20_3
  try clear hcz21_0
  try clear hcz21_1
  try clear hcz24_0
  try clear hcz24_1
  try clear hcz24_2
  try clear hcz24_3
  try clear hfz12_0
  try clear hfz12_1
  try clear hfz12_2
  try clear hfz12_3
  try clear hfz14_0
  try clear hfz14_1
  try clear hfz14_2
  try clear hfz14_3
  try clear hfz15_0
  try clear hfz15_1
  try clear hfz18_0
  try clear hfz18_1
  try clear hfz18_2
  try clear hfz18_3
  try clear hfz20_0
  try clear hfz20_1
  try clear hfz20_2
  try clear hfz20_3
  try clear hfz21_0
  try clear hfz21_1
  try clear hfz24_0
  try clear hfz24_1
  try clear hfz24_2
  try clear hfz24_3
  obtain ⟨kq, x24_3, rfl, HA, HJ3, BK347, BK348, HB⟩ := hcut
  cases kq with
  | zero => exact absurd HA.out (by simp [spec_IsStroke.j0])
  | succ kj3 =>
   have H := HA.out
   clear HA
   simp only [spec_IsStroke.j0] at H
   by_cases c26 : x24_3 = true
   ·subst c26
    have H1 : (some (false, false)) = some (r1, r2) := by rw [if_pos rfl] at H; exact H
    clear H
    have H := H1
    clear H1
    simp only [Option.some.injEq, Prod.mk.injEq] at H
    obtain ⟨rfl, rfl⟩ := H
    go_wp2
    go_ret2
    exact ⟨er_, bl2_ HB.out GE347.out GE348.out⟩
   ·replace c26 := Bool.eq_false_iff.mpr c26
    subst c26
    have H1 : (spec_IsStroke.l0 kj3 a2 0 a0_0 a0_1 l0_2 l0_3 a1_0 a1_1) = some (r1, r2) := by rw [if_neg (show ¬ (false = true) by decide)] at H; exact H
    clear H
    have H := H1
    clear H1
    have H' := Aside0.mk H
    clear H
    go_wp2
    go_loopg [8] kj3 (fun kq v8 w' => ∃ (x8_2 : Int), v8 = .int .i64 x8_2 ∧ Aside0 (spec_IsStroke.l0 kq a2 x8_2 a0_0 a0_1 l0_2 l0_3 a1_0 a1_1 = some (r1, r2)) ∧ Aside0 (kq ≤ kj3) ∧ Aside0 (w'.heap[gb347]? = some (.cells #[.int .i64 a0_0, .int .i64 a0_1, (.slice A0_2 l0_2.length c0_2), (.slice A0_3 l0_3.length c0_3)] 30 (0, 0))) ∧ Aside0 (w'.heap[gb348]? = some (.cells #[.int .i64 a1_0, .int .i64 a1_1] 32 (0, 0))) ∧ Aside0 (Below w.heap.size w w'))
    case atStart => exact ⟨(0), rs_, H', ⟨Nat.le_refl _⟩, ⟨bk_ BK347.out⟩, ⟨bk_ BK348.out⟩, ⟨bl2_ HB.out GE347.out GE348.out⟩⟩
    case round =>
     clear H'
     try clear c1
     try clear c2
     try clear p2
     try clear c5
     try clear c8
     try clear c10
     try clear c11
     try clear c17
     try clear c23
     try clear c26
     try clear hcz12_0
     try clear hcz12_1
     try clear hcz12_2
     try clear hcz12_3
     try clear hcz14_0
     try clear hcz14_1
     try clear hcz14_2
     try clear hcz14_3
     try clear hcz15_0
     try clear hcz15_1
     try clear hcz18_0
     try clear hcz18_1
     try clear hcz18_2
     try clear hcz18_3
     try clear hcz20_0
     try clear hcz20_1
     try clear hcz20_2
     try clear hcz20_3
     try clear hcz21_0
     try clear hcz21_1
     try clear hcz24_0
     try clear hcz24_1
     try clear hcz24_2
     try clear hcz24_3
     try clear hfz12_0
     try clear hfz12_1
     try clear hfz12_2
     try clear hfz12_3
     try clear hfz14_0
     try clear hfz14_1
     try clear hfz14_2
     try clear hfz14_3
     try clear hfz15_0
     try clear hfz15_1
     try clear hfz18_0
     try clear hfz18_1
     try clear hfz18_2
     try clear hfz18_3
     try clear hfz20_0
     try clear hfz20_1
     try clear hfz20_2
     try clear hfz20_3
     try clear hfz21_0
     try clear hfz21_1
     try clear hfz24_0
     try clear hfz24_1
     try clear hfz24_2
     try clear hfz24_3
     try clear p2
     obtain ⟨x8_2, rfl, HA, HK2, BK347, BK348, HB⟩ := hrel
     cases gk with
     | zero => exact absurd HA.out (by simp [spec_IsStroke.l0])
     | succ k2 =>
      have H := HA.out
      clear HA
      simp only [spec_IsStroke.l0] at H
      by_cases c27 : x8_2 < (a2.size : Int)
      ·rw [if_pos c27] at H
       have c27b0 : decide (x8_2 < (a2.size : Int)) = true := decide_eq_true c27
       clear c27
       by_cases c28 : 0 ≤ x8_2
       ·rw [if_pos c28] at H
        have c28b0 : decide (0 ≤ x8_2) = true := decide_eq_true c28
        clear c28
        by_cases c30 : (bt a2 x8_2) = 110
        ·rw [if_pos c30] at H
         have c30b0 : ((bt a2 x8_2) == 110) = true := beq_iff_eq.mpr c30
         have c30b1 : ((bt a2 x8_2) != 110) = false := bne_eq_false_iff_eq.mpr c30
         clear c30
         have H' := Aside0.mk H
         clear H
         have p29 : 0 ≤ (x8_2 : Int) := of_decide_eq_true as_
         have q29 : x8_2 < (a2.size : Int) := of_decide_eq_true as_
         have hx29 := bt_at a2 x8_2
         replace p29 := eq_true p29
         replace q29 := eq_true q29
         go_wp2
         go_roundg k2
         case measure => have := HJ3.out; have := HK2.out; omega
         case rel => exact ⟨(wrap64 (x8_2 + 1)), rs_, H', ⟨by have := HJ3.out; have := HK2.out; omega⟩, ⟨bk_ BK347.out⟩, ⟨bk_ BK348.out⟩, ⟨bl2_ HB.out GE347.out GE348.out⟩⟩
        ·rw [if_neg c30] at H
         have c30b0 : ((bt a2 x8_2) == 110) = false := beq_eq_false_iff_ne.mpr c30
         have c30b1 : ((bt a2 x8_2) != 110) = true := bne_iff_ne.mpr c30
         by_cases c32 : (bt a2 x8_2) = 101
         ·rw [if_pos c32] at H
          have c32b0 : ((bt a2 x8_2) == 101) = true := beq_iff_eq.mpr c32
          have c32b1 : ((bt a2 x8_2) != 101) = false := bne_eq_false_iff_eq.mpr c32
          clear c32
          have H' := Aside0.mk H
          clear H
          have p29 : 0 ≤ (x8_2 : Int) := of_decide_eq_true as_
          have q29 : x8_2 < (a2.size : Int) := of_decide_eq_true as_
          have hx29 := bt_at a2 x8_2
          replace p29 := eq_true p29
          replace q29 := eq_true q29
          have p31 : 0 ≤ (x8_2 : Int) := of_decide_eq_true as_
          have q31 : x8_2 < (a2.size : Int) := of_decide_eq_true as_
          have hx31 := bt_at a2 x8_2
          replace p31 := eq_true p31
          replace q31 := eq_true q31
          go_wp2
          go_roundg k2
          case measure => have := HJ3.out; have := HK2.out; omega
          case rel => exact ⟨(wrap64 (x8_2 + 1)), rs_, H', ⟨by have := HJ3.out; have := HK2.out; omega⟩, ⟨bk_ BK347.out⟩, ⟨bk_ BK348.out⟩, ⟨bl2_ HB.out GE347.out GE348.out⟩⟩
         ·rw [if_neg c32] at H
          have c32b0 : ((bt a2 x8_2) == 101) = false := beq_eq_false_iff_ne.mpr c32
          have c32b1 : ((bt a2 x8_2) != 101) = true := bne_iff_ne.mpr c32
          by_cases c34 : (bt a2 x8_2) = 115
          ·rw [if_pos c34] at H
           have c34b0 : ((bt a2 x8_2) == 115) = true := beq_iff_eq.mpr c34
           have c34b1 : ((bt a2 x8_2) != 115) = false := bne_eq_false_iff_eq.mpr c34
           clear c34
           have H' := Aside0.mk H
           clear H
           have p29 : 0 ≤ (x8_2 : Int) := of_decide_eq_true as_
           have q29 : x8_2 < (a2.size : Int) := of_decide_eq_true as_
           have hx29 := bt_at a2 x8_2
           replace p29 := eq_true p29
           replace q29 := eq_true q29
           have p31 : 0 ≤ (x8_2 : Int) := of_decide_eq_true as_
           have q31 : x8_2 < (a2.size : Int) := of_decide_eq_true as_
           have hx31 := bt_at a2 x8_2
           replace p31 := eq_true p31
           replace q31 := eq_true q31
           have p33 : 0 ≤ (x8_2 : Int) := of_decide_eq_true as_
           have q33 : x8_2 < (a2.size : Int) := of_decide_eq_true as_
           have hx33 := bt_at a2 x8_2
           replace p33 := eq_true p33
           replace q33 := eq_true q33
           go_wp2
           go_roundg k2
           case measure => have := HJ3.out; have := HK2.out; omega
           case rel => exact ⟨(wrap64 (x8_2 + 1)), rs_, H', ⟨by have := HJ3.out; have := HK2.out; omega⟩, ⟨bk_ BK347.out⟩, ⟨bk_ BK348.out⟩, ⟨bl2_ HB.out GE347.out GE348.out⟩⟩
          ·rw [if_neg c34] at H
           have c34b0 : ((bt a2 x8_2) == 115) = false := beq_eq_false_iff_ne.mpr c34
           have c34b1 : ((bt a2 x8_2) != 115) = true := bne_iff_ne.mpr c34
           by_cases c36 : (bt a2 x8_2) = 119
           ·rw [if_pos c36] at H
            have c36b0 : ((bt a2 x8_2) == 119) = true := beq_iff_eq.mpr c36
            have c36b1 : ((bt a2 x8_2) != 119) = false := bne_eq_false_iff_eq.mpr c36
            clear c36
            have H' := Aside0.mk H
            clear H
            have p29 : 0 ≤ (x8_2 : Int) := of_decide_eq_true as_
            have q29 : x8_2 < (a2.size : Int) := of_decide_eq_true as_
            have hx29 := bt_at a2 x8_2
            replace p29 := eq_true p29
            replace q29 := eq_true q29
            have p31 : 0 ≤ (x8_2 : Int) := of_decide_eq_true as_
            have q31 : x8_2 < (a2.size : Int) := of_decide_eq_true as_
            have hx31 := bt_at a2 x8_2
            replace p31 := eq_true p31
            replace q31 := eq_true q31
            have p33 : 0 ≤ (x8_2 : Int) := of_decide_eq_true as_
            have q33 : x8_2 < (a2.size : Int) := of_decide_eq_true as_
            have hx33 := bt_at a2 x8_2
            replace p33 := eq_true p33
            replace q33 := eq_true q33
            have p35 : 0 ≤ (x8_2 : Int) := of_decide_eq_true as_
            have q35 : x8_2 < (a2.size : Int) := of_decide_eq_true as_
            have hx35 := bt_at a2 x8_2
            replace p35 := eq_true p35
            replace q35 := eq_true q35
            go_wp2
            go_roundg k2
            case measure => have := HJ3.out; have := HK2.out; omega
            case rel => exact ⟨(wrap64 (x8_2 + 1)), rs_, H', ⟨by have := HJ3.out; have := HK2.out; omega⟩, ⟨bk_ BK347.out⟩, ⟨bk_ BK348.out⟩, ⟨bl2_ HB.out GE347.out GE348.out⟩⟩
           ·rw [if_neg c36] at H
            have c36b0 : ((bt a2 x8_2) == 119) = false := beq_eq_false_iff_ne.mpr c36
            have c36b1 : ((bt a2 x8_2) != 119) = true := bne_iff_ne.mpr c36
            simp only [Option.some.injEq, Prod.mk.injEq] at H
            obtain ⟨rfl, rfl⟩ := H
            have p29 : 0 ≤ (x8_2 : Int) := of_decide_eq_true as_
            have q29 : x8_2 < (a2.size : Int) := of_decide_eq_true as_
            have hx29 := bt_at a2 x8_2
            replace p29 := eq_true p29
            replace q29 := eq_true q29
            have p31 : 0 ≤ (x8_2 : Int) := of_decide_eq_true as_
            have q31 : x8_2 < (a2.size : Int) := of_decide_eq_true as_
            have hx31 := bt_at a2 x8_2
            replace p31 := eq_true p31
            replace q31 := eq_true q31
            have p33 : 0 ≤ (x8_2 : Int) := of_decide_eq_true as_
            have q33 : x8_2 < (a2.size : Int) := of_decide_eq_true as_
            have hx33 := bt_at a2 x8_2
            replace p33 := eq_true p33
            replace q33 := eq_true q33
            have p35 : 0 ≤ (x8_2 : Int) := of_decide_eq_true as_
            have q35 : x8_2 < (a2.size : Int) := of_decide_eq_true as_
            have hx35 := bt_at a2 x8_2
            replace p35 := eq_true p35
            replace q35 := eq_true q35
            go_wp2
            go_ret2
            exact ⟨er_, bl2_ HB.out GE347.out GE348.out⟩
       ·rw [if_neg c28] at H
        exact absurd H (by simp)
      ·rw [if_neg c27] at H
       have c27b0 : decide (x8_2 < (a2.size : Int)) = false := decide_eq_false c27
       clear c27
       replace H := Option.bind_eq_some_iff.mp H
       obtain ⟨⟨t351, t352, t353, t356, t359⟩, A370, H⟩ := H
       replace H : (if t359 = true then ((spec_fiText.f k2 t351 t352 t353 t356).bind fun t361 => ((spec_fiText.f k2 a0_0 a0_1 l0_2 l0_3).bind fun t362 => (some ((t361.toList == t362.toList), true)))) else (some (false, true))) = some (r1, r2) := H
       have A37 := Aside0.mk A370
       clear A370
       by_cases c38 : t359 = true
       ·subst c38
        have H1 : ((spec_fiText.f k2 t351 t352 t353 t356).bind fun t361 => ((spec_fiText.f k2 a0_0 a0_1 l0_2 l0_3).bind fun t362 => (some ((t361.toList == t362.toList), true)))) = some (r1, r2) := by rw [if_pos rfl] at H; exact H
        clear H
        have H := H1
        clear H1
        replace H := Option.bind_eq_some_iff.mp H
        obtain ⟨t361, A390, H⟩ := H
        replace H : ((spec_fiText.f k2 a0_0 a0_1 l0_2 l0_3).bind fun t362 => (some ((t361.toList == t362.toList), true))) = some (r1, r2) := H
        have A39 := Aside0.mk A390
        clear A390
        replace H := Option.bind_eq_some_iff.mp H
        obtain ⟨t362, A400, H⟩ := H
        replace H : (some ((t361.toList == t362.toList), true)) = some (r1, r2) := H
        have A40 := Aside0.mk A400
        clear A400
        simp only [Option.some.injEq, Prod.mk.injEq] at H
        obtain ⟨rfl, rfl⟩ := H
        have hnb41 := NB347_348.out
        have hnc41 := NB348_347.out
        have hcz42_0 : wr.cell? ⟨gb347, 0, none⟩ = some (.int .i64 a0_0) := (blk_cell BK347.out 0).trans rfl
        have hcz42_1 : wr.cell? ⟨gb347, 1, none⟩ = some (.int .i64 a0_1) := (blk_cell BK347.out 1).trans rfl
        have hcz42_2 : wr.cell? ⟨gb347, 2, none⟩ = some (.slice A0_2 l0_2.length c0_2) := (blk_cell BK347.out 2).trans rfl
        have hcz42_3 : wr.cell? ⟨gb347, 3, none⟩ = some (.slice A0_3 l0_3.length c0_3) := (blk_cell BK347.out 3).trans rfl
        have hfz42_0 := blk_frozen BK347.out 0
        have hfz42_1 := blk_frozen BK347.out 1
        have hfz42_2 := blk_frozen BK347.out 2
        have hfz42_3 := blk_frozen BK347.out 3
        have hcz43_0 : wr.cell? ⟨gb348, 0, none⟩ = some (.int .i64 a1_0) := (blk_cell BK348.out 0).trans rfl
        have hcz43_1 : wr.cell? ⟨gb348, 1, none⟩ = some (.int .i64 a1_1) := (blk_cell BK348.out 1).trans rfl
        have hfz43_0 := blk_frozen BK348.out 0
        have hfz43_1 := blk_frozen BK348.out 1
        try go_wp2_with (first | ((with_reducible refine gate_callee (f := 13) rfl ?_); refine goesL_ (some 60) rfl rfl Tryd.func13 (by kernel_rfl) rfl #[.int .i64 a0_0, .int .i64 a0_1, .agg #[.int .i64 a1_0, .int .i64 a1_1], .string a2] rfl ob_ ?_; (with_reducible refine (spec_liDraw.calls k2 a0_0 a0_1 a1_0 a1_1 a2 t351 t352 t353 t356 true _ A37.out).mono ?_); rintro e w44 ⟨v354, v357, rfl, ho0, ho1, hb⟩; refine ⟨_, rfl, ?_⟩; have n0_ := Aside0.mk (Kd.R_lower ho0 (below_size (bl2_ HB.out GE347.out GE348.out))); have n1_ := Aside0.mk (Kd.R_lower ho1 (below_size (bl2_ HB.out GE347.out GE348.out))); have n2_ := Aside0.mk (bb_ BK347.out hb); have n3_ := Aside0.mk (bb_ BK348.out hb); have n4_ := Aside0.mk (below_step (bl2_ HB.out GE347.out GE348.out) hb); clear BK347; clear BK348; clear HB; have HO355 := n0_; have HO358 := n1_; have BK347 := n2_; have BK348 := n3_; have HB := n4_; clear n0_ n1_ n2_ n3_ n4_; (try clear hb); (try clear hb2); (try clear hk); (try clear hi); (try clear ho0); (try clear ho1)) | ((with_reducible refine gate_dst (N := 9) rfl ?_); (try (refine gate_guard (by rfl) ?_; dsimp only)); refine boxE_ (N := 9) (cs := #[.int .i64 0, .int .i64 0, .slice none 0 0, .slice none 0 0]) (t := 30) ?_; intro gb360 hg w45 hbox hb; have n0_ := Aside0.mk (Kd.R_below (kr_ HO355.out) hb); have n1_ := Aside0.mk (Kd.R_below (kr_ HO358.out) hb); have n2_ := Aside0.mk (bb_ BK347.out hb); have n3_ := Aside0.mk (bb_ BK348.out hb); have n4_ := Aside0.mk (below_step (bl2_ HB.out GE347.out GE348.out) hb); have n5_ := Aside0.mk (hbox); have n6_ := Aside0.mk ((bs2_ hg HB.out GE347.out GE348.out : w.heap.size ≤ gb360)); have n7_ := Aside0.mk ((bs2_ hg HB.out GE347.out GE348.out : w.heap.size ≤ gb360)); have n8_ := Aside0.mk ((nl_ hg BK347.out : gb347 ≠ gb360)); have n9_ := Aside0.mk ((ng_ hg BK347.out : gb360 ≠ gb347)); have n10_ := Aside0.mk ((nl_ hg BK348.out : gb348 ≠ gb360)); have n11_ := Aside0.mk ((ng_ hg BK348.out : gb360 ≠ gb348)); clear HO355; clear HO358; clear BK347; clear BK348; clear HB; have HO355 := n0_; have HO358 := n1_; have BK347 := n2_; have BK348 := n3_; have HB := n4_; have BK360 := n5_; have GW360 := n6_; have GE360 := n7_; have NB347_360 := n8_; have NB360_347 := n9_; have NB348_360 := n10_; have NB360_348 := n11_; clear n0_ n1_ n2_ n3_ n4_ n5_ n6_ n7_ n8_ n9_ n10_ n11_; clear hb hbox hg; have hnb46 := NB360_347.out; have hnc46 := NB347_360.out; have hnb47 := NB360_348.out; have hnc47 := NB348_360.out; have hcz48_0 : w45.cell? ⟨gb360, 0, none⟩ = some (.int .i64 0) := (blk_cell BK360.out 0).trans rfl; have hcz48_1 : w45.cell? ⟨gb360, 1, none⟩ = some (.int .i64 0) := (blk_cell BK360.out 1).trans rfl; have hcz48_2 : w45.cell? ⟨gb360, 2, none⟩ = some (.slice none 0 0) := (blk_cell BK360.out 2).trans rfl; have hcz48_3 : w45.cell? ⟨gb360, 3, none⟩ = some (.slice none 0 0) := (blk_cell BK360.out 3).trans rfl; have hfz48_0 := blk_frozen BK360.out 0; have hfz48_1 := blk_frozen BK360.out 1; have hfz48_2 := blk_frozen BK360.out 2; have hfz48_3 := blk_frozen BK360.out 3; obtain ⟨Ao49, co49, eo49⟩ := Kd.R_slice HO355.out; subst eo49; obtain ⟨Ao50, co50, eo50⟩ := Kd.R_slice HO358.out; subst eo50))
        have n0_ : Aside0 (Kd.R (Kd.int .i64) 3 ((((w45.setCell ⟨gb360, 0, none⟩ (.int .i64 t351)).setCell ⟨gb360, 1, none⟩ (.int .i64 t352)).setCell ⟨gb360, 2, none⟩ (.slice Ao49 t353.length co49)).setCell ⟨gb360, 3, none⟩ (.slice Ao50 t356.length co50)) w.heap.size (fun k_ => some k_ ≠ (.slice Ao50 t356.length co50 : Value).ownBlock) (.slice Ao49 t353.length co49) t353) := ⟨by (with_reducible repeat (first | apply Kd.R_alloc | apply Kd.R_drewN | apply Kd.R_drew)); exact Kd.R_mono (Kd.R_far (p := ⟨gb360, 3, none⟩) (Kd.R_far (p := ⟨gb360, 2, none⟩) (Kd.R_far (p := ⟨gb360, 1, none⟩) (Kd.R_far (p := ⟨gb360, 0, none⟩) (Kd.R_types HO355.out BK360.out (by decide)) (fun _ hk => hk.2) (.int .i64 t351)) (fun _ hk => hk.2) (.int .i64 t352)) (fun _ hk => hk.2) (.slice Ao49 t353.length co49)) (fun _ hk => hk.2) (.slice Ao50 t356.length co50)) (fun _ hk => hk.1)⟩
        have n1_ : Aside0 (Kd.R (Kd.int .i64) 3 ((((w45.setCell ⟨gb360, 0, none⟩ (.int .i64 t351)).setCell ⟨gb360, 1, none⟩ (.int .i64 t352)).setCell ⟨gb360, 2, none⟩ (.slice Ao49 t353.length co49)).setCell ⟨gb360, 3, none⟩ (.slice Ao50 t356.length co50)) w.heap.size (fun k_ => some k_ ≠ (.slice Ao49 t353.length co49 : Value).ownBlock) (.slice Ao50 t356.length co50) t356) := ⟨by (with_reducible repeat (first | apply Kd.R_alloc | apply Kd.R_drewN | apply Kd.R_drew)); exact Kd.R_mono (Kd.R_far (p := ⟨gb360, 3, none⟩) (Kd.R_far (p := ⟨gb360, 2, none⟩) (Kd.R_far (p := ⟨gb360, 1, none⟩) (Kd.R_far (p := ⟨gb360, 0, none⟩) (Kd.R_types HO358.out BK360.out (by decide)) (fun _ hk => hk.2) (.int .i64 t351)) (fun _ hk => hk.2) (.int .i64 t352)) (fun _ hk => hk.2) (.slice Ao49 t353.length co49)) (fun _ hk => hk.2) (.slice Ao50 t356.length co50)) (fun _ hk => hk.1)⟩
        have n2_ : Aside0 (((((w45.setCell ⟨gb360, 0, none⟩ (.int .i64 t351)).setCell ⟨gb360, 1, none⟩ (.int .i64 t352)).setCell ⟨gb360, 2, none⟩ (.slice Ao49 t353.length co49)).setCell ⟨gb360, 3, none⟩ (.slice Ao50 t356.length co50)).heap[gb347]? = some (.cells #[.int .i64 a0_0, .int .i64 a0_1, .slice A0_2 l0_2.length c0_2, .slice A0_3 l0_3.length c0_3] 30 (0, 0))) := ⟨bf4_ NB347_360.out NB347_360.out NB347_360.out NB347_360.out BK347.out⟩
        have n3_ : Aside0 (((((w45.setCell ⟨gb360, 0, none⟩ (.int .i64 t351)).setCell ⟨gb360, 1, none⟩ (.int .i64 t352)).setCell ⟨gb360, 2, none⟩ (.slice Ao49 t353.length co49)).setCell ⟨gb360, 3, none⟩ (.slice Ao50 t356.length co50)).heap[gb348]? = some (.cells #[.int .i64 a1_0, .int .i64 a1_1] 32 (0, 0))) := ⟨bf4_ NB348_360.out NB348_360.out NB348_360.out NB348_360.out BK348.out⟩
        have n4_ : Aside0 (((((w45.setCell ⟨gb360, 0, none⟩ (.int .i64 t351)).setCell ⟨gb360, 1, none⟩ (.int .i64 t352)).setCell ⟨gb360, 2, none⟩ (.slice Ao49 t353.length co49)).setCell ⟨gb360, 3, none⟩ (.slice Ao50 t356.length co50)).heap[gb360]? = some (.cells #[.int .i64 t351, .int .i64 t352, .slice Ao49 t353.length co49, .slice Ao50 t356.length co50] 30 (0, 0))) := ⟨by (with_reducible repeat (first | refine blk_drewN ?_ _ | refine blk_drew ?_ | refine blk_alloc ?_ _)); refine blk_put (cs := #[.int .i64 t351, .int .i64 t352, .slice Ao49 t353.length co49, .slice none 0 0]) ?_ 3 _ rfl; (with_reducible repeat (first | refine blk_drewN ?_ _ | refine blk_drew ?_ | refine blk_alloc ?_ _)); refine blk_put (cs := #[.int .i64 t351, .int .i64 t352, .slice none 0 0, .slice none 0 0]) ?_ 2 _ rfl; (with_reducible repeat (first | refine blk_drewN ?_ _ | refine blk_drew ?_ | refine blk_alloc ?_ _)); refine blk_put (cs := #[.int .i64 t351, .int .i64 0, .slice none 0 0, .slice none 0 0]) ?_ 1 _ rfl; (with_reducible repeat (first | refine blk_drewN ?_ _ | refine blk_drew ?_ | refine blk_alloc ?_ _)); refine blk_put (cs := #[.int .i64 0, .int .i64 0, .slice none 0 0, .slice none 0 0]) ?_ 0 _ rfl; (with_reducible repeat (first | refine blk_drewN ?_ _ | refine blk_drew ?_ | refine blk_alloc ?_ _)); exact BK360.out⟩
        have n5_ : Aside0 (Below w.heap.size w ((((w45.setCell ⟨gb360, 0, none⟩ (.int .i64 t351)).setCell ⟨gb360, 1, none⟩ (.int .i64 t352)).setCell ⟨gb360, 2, none⟩ (.slice Ao49 t353.length co49)).setCell ⟨gb360, 3, none⟩ (.slice Ao50 t356.length co50))) := ⟨bl3_ HB.out GE347.out GE348.out GE360.out⟩
        (try clear HO355)
        (try clear HO358)
        (try clear BK347)
        (try clear BK348)
        (try clear BK360)
        (try clear HB)
        generalize ((((w45.setCell ⟨gb360, 0, none⟩ (.int .i64 t351)).setCell ⟨gb360, 1, none⟩ (.int .i64 t352)).setCell ⟨gb360, 2, none⟩ (.slice Ao49 t353.length co49)).setCell ⟨gb360, 3, none⟩ (.slice Ao50 t356.length co50)) = w51 at n0_ n1_ n2_ n3_ n4_ n5_ ⊢
        have HO355 := n0_
        have HO358 := n1_
        have BK347 := n2_
        have BK348 := n3_
        have BK360 := n4_
        have HB := n5_
        clear n0_ n1_ n2_ n3_ n4_ n5_
        have n0_ := Aside0.mk (Kd.R_drew HO355.out)
        have n1_ := Aside0.mk (Kd.R_drew HO358.out)
        have n2_ := Aside0.mk (blk_drew BK347.out)
        have n3_ := Aside0.mk (blk_drew BK348.out)
        have n4_ := Aside0.mk (blk_drew BK360.out)
        have n5_ := Aside0.mk (below_drew1 HB.out)
        clear HO355
        clear HO358
        clear BK347
        clear BK348
        clear BK360
        clear HB
        have HO355 := n0_
        have HO358 := n1_
        have BK347 := n2_
        have BK348 := n3_
        have BK360 := n4_
        have HB := n5_
        clear n0_ n1_ n2_ n3_ n4_ n5_
        refine start_ (n := 10) (S := fun w' => w'.cell? ⟨gb360, 0, none⟩ = some (.int .i64 t351) ∧ w'.cell? ⟨gb360, 1, none⟩ = some (.int .i64 t352) ∧ w'.cell? ⟨gb360, 2, none⟩ = some (.slice Ao49 t353.length co49) ∧ w'.cell? ⟨gb360, 3, none⟩ = some (.slice Ao50 t356.length co50) ∧ w'.cell? ⟨gb347, 0, none⟩ = some (.int .i64 a0_0) ∧ w'.cell? ⟨gb347, 1, none⟩ = some (.int .i64 a0_1) ∧ w'.cell? ⟨gb347, 2, none⟩ = some (.slice A0_2 l0_2.length c0_2) ∧ w'.cell? ⟨gb347, 3, none⟩ = some (.slice A0_3 l0_3.length c0_3)) (ds := []) #[Ff, Ff, Ff, Ff, Ff, Ff, Ff, Ff, Ff, Ff] (by kernel_rfl) rfl rfl ⟨(blk_cell BK360.out 0).trans rfl, (blk_cell BK360.out 1).trans rfl, (blk_cell BK360.out 2).trans rfl, (blk_cell BK360.out 3).trans rfl, (blk_cell BK347.out 0).trans rfl, (blk_cell BK347.out 1).trans rfl, (blk_cell BK347.out 2).trans rfl, (blk_cell BK347.out 3).trans rfl⟩ (fun hHeld => ?_); refine with_tabW spec_IsStroke.tab9 spec_IsStroke.bits9 (fun HT_ HW_ => ?_)
        generalize w51.drew = w52 at HO355 HO358 BK347 BK348 BK360 HB hHeld ⊢
        refine pZ (i := 0) (N := some 63) #[Tt, Ff, Ff, Ff, Ff, Ff, Ff, Ff, Ff, Ff] ?_
        refine pZ (i := 1) (N := some 64) #[Tt, Tt, Ff, Ff, Ff, Ff, Ff, Ff, Ff, Ff] ?_
        refine tZ (i := 2) (N := some 65) #[Tt, Tt, Tt, Ff, Ff, Ff, Ff, Ff, Ff, Ff] ?_
        refine tZ (i := 4) (N := some 67) #[Tt, Tt, Tt, Ff, Tt, Ff, Ff, Ff, Ff, Ff] ?_
        refine one_ (i := 3) (N := some 66) #[Tt, Tt, Tt, Tt, Tt, Ff, Ff, Ff, Ff, Ff] rfl rfl (one_of HT_.out (by kernel_rfl)) (by decide) (fun K hK => ?_)
        refine goes_ Tryd.func14 (by kernel_rfl) rfl #[.agg #[.int .i64 t351, .int .i64 t352, .slice Ao49 t353.length co49, .slice Ao50 t356.length co50]] (by rfl) rfl rfl ob_ ?_
        with_reducible refine (spec_fiText.calls k2 t351 t352 _ _ t353 _ _ t356 t361 _ ?side1 ?side2 ?side3 ?side4 A39.out).mono ?_
        (case side1 => repeat (first | exact (Kd.R_reads' HO355.out).2.2 | (with_reducible refine Kd.C_alloc ?_ _) | (with_reducible refine Kd.C_drewN ?_ _) | (with_reducible refine Kd.C_drew ?_)))
        (case side2 => exact (Kd.R_reads' HO355.out).2.1)
        (case side3 => repeat (first | exact (Kd.R_reads' HO358.out).2.2 | (with_reducible refine Kd.C_alloc ?_ _) | (with_reducible refine Kd.C_drewN ?_ _) | (with_reducible refine Kd.C_drew ?_)))
        (case side4 => exact (Kd.R_reads' HO358.out).2.1)
        rintro e w53 ⟨rfl, hb⟩
        refine ⟨_, rfl, ?_⟩
        have n0_ := Aside0.mk (Kd.R_below (kr_ HO355.out) hb)
        have n1_ := Aside0.mk (Kd.R_below (kr_ HO358.out) hb)
        have n2_ := Aside0.mk (bb_ BK347.out hb)
        have n3_ := Aside0.mk (bb_ BK348.out hb)
        have n4_ := Aside0.mk (bb_ BK360.out hb)
        have n5_ := Aside0.mk (below_step (bl3_ HB.out GE347.out GE348.out GE360.out) hb)
        clear HO355
        clear HO358
        clear BK347
        clear BK348
        clear BK360
        clear HB
        have HO355 := n0_
        have HO358 := n1_
        have BK347 := n2_
        have BK348 := n3_
        have BK360 := n4_
        have HB := n5_
        clear n0_ n1_ n2_ n3_ n4_ n5_
        (try clear hb)
        (try clear hb2)
        (try clear hk)
        (try clear hi)
        refine hK.out _ _ ⟨(blk_cell BK360.out 0).trans rfl, (blk_cell BK360.out 1).trans rfl, (blk_cell BK360.out 2).trans rfl, (blk_cell BK360.out 3).trans rfl, (blk_cell BK347.out 0).trans rfl, (blk_cell BK347.out 1).trans rfl, (blk_cell BK347.out 2).trans rfl, (blk_cell BK347.out 3).trans rfl⟩ (fun hHeld => ?_)
        clear hK K
        refine norm_ (a' := _) ap_ ?_
        refine one_ (i := 5) (N := some 68) #[Tt, Tt, Tt, Tt, Tt, Tt, Ff, Ff, Ff, Ff] rfl rfl (one_of HT_.out (by kernel_rfl)) (by decide) (fun K hK => ?_)
        refine goes_ Tryd.func14 (by kernel_rfl) rfl #[.agg #[.int .i64 a0_0, .int .i64 a0_1, .slice A0_2 l0_2.length c0_2, .slice A0_3 l0_3.length c0_3]] (by rfl) rfl rfl ob_ ?_
        with_reducible refine (spec_fiText.calls k2 a0_0 a0_1 _ _ l0_2 _ _ l0_3 t362 _ ?side1 ?side2 ?side3 ?side4 A40.out).mono ?_
        (case side1 => exact kc_ (Kd.C_below HR0_2.out HB.out))
        (case side2 => exact HC0_2.out)
        (case side3 => exact kc_ (Kd.C_below HR0_3.out HB.out))
        (case side4 => exact HC0_3.out)
        rintro e w54 ⟨rfl, hb⟩
        refine ⟨_, rfl, ?_⟩
        have n0_ := Aside0.mk (Kd.R_below (kr_ HO355.out) hb)
        have n1_ := Aside0.mk (Kd.R_below (kr_ HO358.out) hb)
        have n2_ := Aside0.mk (bb_ BK347.out hb)
        have n3_ := Aside0.mk (bb_ BK348.out hb)
        have n4_ := Aside0.mk (bb_ BK360.out hb)
        have n5_ := Aside0.mk (below_step (bl3_ HB.out GE347.out GE348.out GE360.out) hb)
        clear HO355
        clear HO358
        clear BK347
        clear BK348
        clear BK360
        clear HB
        have HO355 := n0_
        have HO358 := n1_
        have BK347 := n2_
        have BK348 := n3_
        have BK360 := n4_
        have HB := n5_
        clear n0_ n1_ n2_ n3_ n4_ n5_
        (try clear hb)
        (try clear hb2)
        (try clear hk)
        (try clear hi)
        refine hK.out _ _ ⟨(blk_cell BK360.out 0).trans rfl, (blk_cell BK360.out 1).trans rfl, (blk_cell BK360.out 2).trans rfl, (blk_cell BK360.out 3).trans rfl, (blk_cell BK347.out 0).trans rfl, (blk_cell BK347.out 1).trans rfl, (blk_cell BK347.out 2).trans rfl, (blk_cell BK347.out 3).trans rfl⟩ (fun hHeld => ?_)
        clear hK K
        refine norm_ (a' := _) ap_ ?_
        refine pZ (i := 6) (N := some 69) #[Tt, Tt, Tt, Tt, Tt, Tt, Tt, Ff, Ff, Ff] ?_
        refine pZ (i := 7) (N := some 70) #[Tt, Tt, Tt, Tt, Tt, Tt, Tt, Tt, Ff, Ff] ?_
        refine pZ (i := 8) (N := some 6) #[Tt, Tt, Tt, Tt, Tt, Tt, Tt, Tt, Tt, Ff] ?_
        refine pZ (i := 9) (N := some 7) #[Tt, Tt, Tt, Tt, Tt, Tt, Tt, Tt, Tt, Tt] ?_
        refine done_ (done_of HT_.out (by kernel_rfl)) ?_
        try go_wp2
        go_ret2
        exact ⟨er_, bl3_ HB.out GE347.out GE348.out GE360.out⟩
       ·replace c38 := Bool.eq_false_iff.mpr c38
        subst c38
        have H1 : (some (false, true)) = some (r1, r2) := by rw [if_neg (show ¬ (false = true) by decide)] at H; exact H
        clear H
        have H := H1
        clear H1
        simp only [Option.some.injEq, Prod.mk.injEq] at H
        obtain ⟨rfl, rfl⟩ := H
        have hnb55 := NB347_348.out
        have hnc55 := NB348_347.out
        have hcz56_0 : wr.cell? ⟨gb347, 0, none⟩ = some (.int .i64 a0_0) := (blk_cell BK347.out 0).trans rfl
        have hcz56_1 : wr.cell? ⟨gb347, 1, none⟩ = some (.int .i64 a0_1) := (blk_cell BK347.out 1).trans rfl
        have hcz56_2 : wr.cell? ⟨gb347, 2, none⟩ = some (.slice A0_2 l0_2.length c0_2) := (blk_cell BK347.out 2).trans rfl
        have hcz56_3 : wr.cell? ⟨gb347, 3, none⟩ = some (.slice A0_3 l0_3.length c0_3) := (blk_cell BK347.out 3).trans rfl
        have hfz56_0 := blk_frozen BK347.out 0
        have hfz56_1 := blk_frozen BK347.out 1
        have hfz56_2 := blk_frozen BK347.out 2
        have hfz56_3 := blk_frozen BK347.out 3
        have hcz57_0 : wr.cell? ⟨gb348, 0, none⟩ = some (.int .i64 a1_0) := (blk_cell BK348.out 0).trans rfl
        have hcz57_1 : wr.cell? ⟨gb348, 1, none⟩ = some (.int .i64 a1_1) := (blk_cell BK348.out 1).trans rfl
        have hfz57_0 := blk_frozen BK348.out 0
        have hfz57_1 := blk_frozen BK348.out 1
        try go_wp2_with (first | ((with_reducible refine gate_callee (f := 13) rfl ?_); refine goesL_ (some 60) rfl rfl Tryd.func13 (by kernel_rfl) rfl #[.int .i64 a0_0, .int .i64 a0_1, .agg #[.int .i64 a1_0, .int .i64 a1_1], .string a2] rfl ob_ ?_; (with_reducible refine (spec_liDraw.calls k2 a0_0 a0_1 a1_0 a1_1 a2 t351 t352 t353 t356 false _ A37.out).mono ?_); rintro e w58 ⟨v354, v357, rfl, ho0, ho1, hb⟩; refine ⟨_, rfl, ?_⟩; have n0_ := Aside0.mk (Kd.R_lower ho0 (below_size (bl2_ HB.out GE347.out GE348.out))); have n1_ := Aside0.mk (Kd.R_lower ho1 (below_size (bl2_ HB.out GE347.out GE348.out))); have n2_ := Aside0.mk (bb_ BK347.out hb); have n3_ := Aside0.mk (bb_ BK348.out hb); have n4_ := Aside0.mk (below_step (bl2_ HB.out GE347.out GE348.out) hb); clear BK347; clear BK348; clear HB; have HO355 := n0_; have HO358 := n1_; have BK347 := n2_; have BK348 := n3_; have HB := n4_; clear n0_ n1_ n2_ n3_ n4_; (try clear hb); (try clear hb2); (try clear hk); (try clear hi); (try clear ho0); (try clear ho1)) | ((with_reducible refine gate_dst (N := 9) rfl ?_); (try (refine gate_guard (by rfl) ?_; dsimp only)); refine boxE_ (N := 9) (cs := #[.int .i64 0, .int .i64 0, .slice none 0 0, .slice none 0 0]) (t := 30) ?_; intro gb360 hg w59 hbox hb; have n0_ := Aside0.mk (Kd.R_below (kr_ HO355.out) hb); have n1_ := Aside0.mk (Kd.R_below (kr_ HO358.out) hb); have n2_ := Aside0.mk (bb_ BK347.out hb); have n3_ := Aside0.mk (bb_ BK348.out hb); have n4_ := Aside0.mk (below_step (bl2_ HB.out GE347.out GE348.out) hb); have n5_ := Aside0.mk (hbox); have n6_ := Aside0.mk ((bs2_ hg HB.out GE347.out GE348.out : w.heap.size ≤ gb360)); have n7_ := Aside0.mk ((bs2_ hg HB.out GE347.out GE348.out : w.heap.size ≤ gb360)); have n8_ := Aside0.mk ((nl_ hg BK347.out : gb347 ≠ gb360)); have n9_ := Aside0.mk ((ng_ hg BK347.out : gb360 ≠ gb347)); have n10_ := Aside0.mk ((nl_ hg BK348.out : gb348 ≠ gb360)); have n11_ := Aside0.mk ((ng_ hg BK348.out : gb360 ≠ gb348)); clear HO355; clear HO358; clear BK347; clear BK348; clear HB; have HO355 := n0_; have HO358 := n1_; have BK347 := n2_; have BK348 := n3_; have HB := n4_; have BK360 := n5_; have GW360 := n6_; have GE360 := n7_; have NB347_360 := n8_; have NB360_347 := n9_; have NB348_360 := n10_; have NB360_348 := n11_; clear n0_ n1_ n2_ n3_ n4_ n5_ n6_ n7_ n8_ n9_ n10_ n11_; clear hb hbox hg; have hnb60 := NB360_347.out; have hnc60 := NB347_360.out; have hnb61 := NB360_348.out; have hnc61 := NB348_360.out; have hcz62_0 : w59.cell? ⟨gb360, 0, none⟩ = some (.int .i64 0) := (blk_cell BK360.out 0).trans rfl; have hcz62_1 : w59.cell? ⟨gb360, 1, none⟩ = some (.int .i64 0) := (blk_cell BK360.out 1).trans rfl; have hcz62_2 : w59.cell? ⟨gb360, 2, none⟩ = some (.slice none 0 0) := (blk_cell BK360.out 2).trans rfl; have hcz62_3 : w59.cell? ⟨gb360, 3, none⟩ = some (.slice none 0 0) := (blk_cell BK360.out 3).trans rfl; have hfz62_0 := blk_frozen BK360.out 0; have hfz62_1 := blk_frozen BK360.out 1; have hfz62_2 := blk_frozen BK360.out 2; have hfz62_3 := blk_frozen BK360.out 3; obtain ⟨Ao63, co63, eo63⟩ := Kd.R_slice HO355.out; subst eo63; obtain ⟨Ao64, co64, eo64⟩ := Kd.R_slice HO358.out; subst eo64))
        have n0_ : Aside0 (Kd.R (Kd.int .i64) 3 ((((w59.setCell ⟨gb360, 0, none⟩ (.int .i64 t351)).setCell ⟨gb360, 1, none⟩ (.int .i64 t352)).setCell ⟨gb360, 2, none⟩ (.slice Ao63 t353.length co63)).setCell ⟨gb360, 3, none⟩ (.slice Ao64 t356.length co64)) w.heap.size (fun k_ => some k_ ≠ (.slice Ao64 t356.length co64 : Value).ownBlock) (.slice Ao63 t353.length co63) t353) := ⟨by (with_reducible repeat (first | apply Kd.R_alloc | apply Kd.R_drewN | apply Kd.R_drew)); exact Kd.R_mono (Kd.R_far (p := ⟨gb360, 3, none⟩) (Kd.R_far (p := ⟨gb360, 2, none⟩) (Kd.R_far (p := ⟨gb360, 1, none⟩) (Kd.R_far (p := ⟨gb360, 0, none⟩) (Kd.R_types HO355.out BK360.out (by decide)) (fun _ hk => hk.2) (.int .i64 t351)) (fun _ hk => hk.2) (.int .i64 t352)) (fun _ hk => hk.2) (.slice Ao63 t353.length co63)) (fun _ hk => hk.2) (.slice Ao64 t356.length co64)) (fun _ hk => hk.1)⟩
        have n1_ : Aside0 (Kd.R (Kd.int .i64) 3 ((((w59.setCell ⟨gb360, 0, none⟩ (.int .i64 t351)).setCell ⟨gb360, 1, none⟩ (.int .i64 t352)).setCell ⟨gb360, 2, none⟩ (.slice Ao63 t353.length co63)).setCell ⟨gb360, 3, none⟩ (.slice Ao64 t356.length co64)) w.heap.size (fun k_ => some k_ ≠ (.slice Ao63 t353.length co63 : Value).ownBlock) (.slice Ao64 t356.length co64) t356) := ⟨by (with_reducible repeat (first | apply Kd.R_alloc | apply Kd.R_drewN | apply Kd.R_drew)); exact Kd.R_mono (Kd.R_far (p := ⟨gb360, 3, none⟩) (Kd.R_far (p := ⟨gb360, 2, none⟩) (Kd.R_far (p := ⟨gb360, 1, none⟩) (Kd.R_far (p := ⟨gb360, 0, none⟩) (Kd.R_types HO358.out BK360.out (by decide)) (fun _ hk => hk.2) (.int .i64 t351)) (fun _ hk => hk.2) (.int .i64 t352)) (fun _ hk => hk.2) (.slice Ao63 t353.length co63)) (fun _ hk => hk.2) (.slice Ao64 t356.length co64)) (fun _ hk => hk.1)⟩
        have n2_ : Aside0 (((((w59.setCell ⟨gb360, 0, none⟩ (.int .i64 t351)).setCell ⟨gb360, 1, none⟩ (.int .i64 t352)).setCell ⟨gb360, 2, none⟩ (.slice Ao63 t353.length co63)).setCell ⟨gb360, 3, none⟩ (.slice Ao64 t356.length co64)).heap[gb347]? = some (.cells #[.int .i64 a0_0, .int .i64 a0_1, .slice A0_2 l0_2.length c0_2, .slice A0_3 l0_3.length c0_3] 30 (0, 0))) := ⟨bf4_ NB347_360.out NB347_360.out NB347_360.out NB347_360.out BK347.out⟩
        have n3_ : Aside0 (((((w59.setCell ⟨gb360, 0, none⟩ (.int .i64 t351)).setCell ⟨gb360, 1, none⟩ (.int .i64 t352)).setCell ⟨gb360, 2, none⟩ (.slice Ao63 t353.length co63)).setCell ⟨gb360, 3, none⟩ (.slice Ao64 t356.length co64)).heap[gb348]? = some (.cells #[.int .i64 a1_0, .int .i64 a1_1] 32 (0, 0))) := ⟨bf4_ NB348_360.out NB348_360.out NB348_360.out NB348_360.out BK348.out⟩
        have n4_ : Aside0 (((((w59.setCell ⟨gb360, 0, none⟩ (.int .i64 t351)).setCell ⟨gb360, 1, none⟩ (.int .i64 t352)).setCell ⟨gb360, 2, none⟩ (.slice Ao63 t353.length co63)).setCell ⟨gb360, 3, none⟩ (.slice Ao64 t356.length co64)).heap[gb360]? = some (.cells #[.int .i64 t351, .int .i64 t352, .slice Ao63 t353.length co63, .slice Ao64 t356.length co64] 30 (0, 0))) := ⟨by (with_reducible repeat (first | refine blk_drewN ?_ _ | refine blk_drew ?_ | refine blk_alloc ?_ _)); refine blk_put (cs := #[.int .i64 t351, .int .i64 t352, .slice Ao63 t353.length co63, .slice none 0 0]) ?_ 3 _ rfl; (with_reducible repeat (first | refine blk_drewN ?_ _ | refine blk_drew ?_ | refine blk_alloc ?_ _)); refine blk_put (cs := #[.int .i64 t351, .int .i64 t352, .slice none 0 0, .slice none 0 0]) ?_ 2 _ rfl; (with_reducible repeat (first | refine blk_drewN ?_ _ | refine blk_drew ?_ | refine blk_alloc ?_ _)); refine blk_put (cs := #[.int .i64 t351, .int .i64 0, .slice none 0 0, .slice none 0 0]) ?_ 1 _ rfl; (with_reducible repeat (first | refine blk_drewN ?_ _ | refine blk_drew ?_ | refine blk_alloc ?_ _)); refine blk_put (cs := #[.int .i64 0, .int .i64 0, .slice none 0 0, .slice none 0 0]) ?_ 0 _ rfl; (with_reducible repeat (first | refine blk_drewN ?_ _ | refine blk_drew ?_ | refine blk_alloc ?_ _)); exact BK360.out⟩
        have n5_ : Aside0 (Below w.heap.size w ((((w59.setCell ⟨gb360, 0, none⟩ (.int .i64 t351)).setCell ⟨gb360, 1, none⟩ (.int .i64 t352)).setCell ⟨gb360, 2, none⟩ (.slice Ao63 t353.length co63)).setCell ⟨gb360, 3, none⟩ (.slice Ao64 t356.length co64))) := ⟨bl3_ HB.out GE347.out GE348.out GE360.out⟩
        (try clear HO355)
        (try clear HO358)
        (try clear BK347)
        (try clear BK348)
        (try clear BK360)
        (try clear HB)
        generalize ((((w59.setCell ⟨gb360, 0, none⟩ (.int .i64 t351)).setCell ⟨gb360, 1, none⟩ (.int .i64 t352)).setCell ⟨gb360, 2, none⟩ (.slice Ao63 t353.length co63)).setCell ⟨gb360, 3, none⟩ (.slice Ao64 t356.length co64)) = w65 at n0_ n1_ n2_ n3_ n4_ n5_ ⊢
        have HO355 := n0_
        have HO358 := n1_
        have BK347 := n2_
        have BK348 := n3_
        have BK360 := n4_
        have HB := n5_
        clear n0_ n1_ n2_ n3_ n4_ n5_
        have n0_ := Aside0.mk (Kd.R_drew HO355.out)
        have n1_ := Aside0.mk (Kd.R_drew HO358.out)
        have n2_ := Aside0.mk (blk_drew BK347.out)
        have n3_ := Aside0.mk (blk_drew BK348.out)
        have n4_ := Aside0.mk (blk_drew BK360.out)
        have n5_ := Aside0.mk (below_drew1 HB.out)
        clear HO355
        clear HO358
        clear BK347
        clear BK348
        clear BK360
        clear HB
        have HO355 := n0_
        have HO358 := n1_
        have BK347 := n2_
        have BK348 := n3_
        have BK360 := n4_
        have HB := n5_
        clear n0_ n1_ n2_ n3_ n4_ n5_
        refine start_ (n := 10) (S := fun w' => True) (ds := []) #[Ff, Ff, Ff, Ff, Ff, Ff, Ff, Ff, Ff, Ff] (by kernel_rfl) rfl rfl trivial (fun hHeld => ?_); refine with_tabW spec_IsStroke.tab9 spec_IsStroke.bits9 (fun HT_ HW_ => ?_)
        generalize w65.drew = w66 at HO355 HO358 BK347 BK348 BK360 HB hHeld ⊢
        refine pZ (i := 0) (N := some 63) #[Tt, Ff, Ff, Ff, Ff, Ff, Ff, Ff, Ff, Ff] ?_
        refine pZ (i := 1) (N := some 64) #[Tt, Tt, Ff, Ff, Ff, Ff, Ff, Ff, Ff, Ff] ?_
        refine pU (i := 2) (N := some 65) #[Tt, Tt, Tt, Ff, Ff, Ff, Ff, Ff, Ff, Ff] ?_
        refine pU (i := 3) (N := some 66) #[Tt, Tt, Tt, Tt, Ff, Ff, Ff, Ff, Ff, Ff] ?_
        refine pU (i := 4) (N := some 67) #[Tt, Tt, Tt, Tt, Tt, Ff, Ff, Ff, Ff, Ff] ?_
        refine pU (i := 5) (N := some 68) #[Tt, Tt, Tt, Tt, Tt, Tt, Ff, Ff, Ff, Ff] ?_
        refine pU (i := 6) (N := some 69) #[Tt, Tt, Tt, Tt, Tt, Tt, Tt, Ff, Ff, Ff] ?_
        refine pZ (i := 7) (N := some 70) #[Tt, Tt, Tt, Tt, Tt, Tt, Tt, Tt, Ff, Ff] ?_
        refine pZ (i := 8) (N := some 6) #[Tt, Tt, Tt, Tt, Tt, Tt, Tt, Tt, Tt, Ff] ?_
        refine pZ (i := 9) (N := some 7) #[Tt, Tt, Tt, Tt, Tt, Tt, Tt, Tt, Tt, Tt] ?_
        refine done_ (done_of HT_.out (by kernel_rfl)) ?_
        try go_wp2
        go_ret2
        exact ⟨er_, bl3_ HB.out GE347.out GE348.out GE360.out⟩


def risingB : List Int → Bool
 | a :: b :: t => decide (a < b) && risingB (b :: t)
 | _ => true
def inB (lo hi : Int) (l : List Int) : Bool := l.all fun x => decide (lo ≤ x) && decide (x ≤ hi)
theorem isRising_l0 (l : List Int) (hL : l.length ≤ 4000000) : ∀ (d k i : Nat), l.length - i = d → 1 ≤ i → i ≤ l.length → d < k → impl_isRising.l0 k l (i : Int) = some (risingB (l.drop (i - 1))) := by
 intro d
 induction d with
 | zero =>
  intro k i h1 h2 h3 h4
  obtain ⟨k, rfl⟩ : ∃ m, k = m + 1 := ⟨k - 1, by omega⟩
  simp only [impl_isRising.l0]
  rw [if_neg (by omega), List.drop_eq_getElem_cons (by omega), List.drop_of_length_le (by omega)]
  rfl
 | succ d ih =>
  intro k i h1 h2 h3 h4
  obtain ⟨k, rfl⟩ : ∃ m, k = m + 1 := ⟨k - 1, by omega⟩
  have e1 : wrap64 ((i : Int) - 1) = ((i - 1 : Nat) : Int) := by unfold wrap64; omega
  have e2 : wrap64 ((i : Int) + 1) = ((i + 1 : Nat) : Int) := by unfold wrap64; omega
  simp only [impl_isRising.l0]
  rw [if_pos (by omega), if_pos (by omega), e1, if_pos (by omega), if_pos (by omega), rd_nat l i (by omega), rd_nat l (i - 1) (by omega), e2, ih k (i + 1) (by omega) (by omega) (by omega) (by omega),
   List.drop_eq_getElem_cons (show i - 1 < l.length by omega), show i - 1 + 1 = i by omega, show i + 1 - 1 = i by omega, List.drop_eq_getElem_cons (show i < l.length by omega)]
  by_cases hlt : l[i] ≤ l[i - 1]
  ·rw [if_pos hlt]
   simp only [risingB]
   rw [decide_eq_false (by omega)]
   rfl
  ·rw [if_neg hlt]
   simp only [risingB]
   rw [decide_eq_true (by omega)]
   rfl
theorem isRising_f (l : List Int) (hL : l.length ≤ 4000000) (k : Nat) (hk : l.length + 1 < k) : impl_isRising.f k l = some (risingB l) := by
 unfold impl_isRising.f
 by_cases h0 : l.length = 0
 ·have : l = [] := List.length_eq_zero_iff.1 h0
  subst this
  obtain ⟨k, rfl⟩ : ∃ m, k = m + 1 := ⟨k - 1, by omega⟩
  simp only [impl_isRising.l0]
  rw [if_neg (by simp)]
  rfl
 ·exact isRising_l0 l hL (l.length - 1) k 1 rfl (by omega) (by omega) (by omega)
theorem fiRises_l0 (l : List Int) (hL : l.length ≤ 4000000) : ∀ (d k i : Nat), l.length - i = d → 1 ≤ i → i ≤ l.length → d < k → spec_fiRises.l0 k l (i : Int) = some (risingB (l.drop (i - 1))) := by
 intro d
 induction d with
 | zero =>
  intro k i h1 h2 h3 h4
  obtain ⟨k, rfl⟩ : ∃ m, k = m + 1 := ⟨k - 1, by omega⟩
  simp only [spec_fiRises.l0]
  rw [if_neg (by omega), List.drop_eq_getElem_cons (by omega), List.drop_of_length_le (by omega)]
  rfl
 | succ d ih =>
  intro k i h1 h2 h3 h4
  obtain ⟨k, rfl⟩ : ∃ m, k = m + 1 := ⟨k - 1, by omega⟩
  have e1 : wrap64 ((i : Int) - 1) = ((i - 1 : Nat) : Int) := by unfold wrap64; omega
  have e2 : wrap64 ((i : Int) + 1) = ((i + 1 : Nat) : Int) := by unfold wrap64; omega
  simp only [spec_fiRises.l0]
  rw [if_pos (by omega), e1, if_pos (by omega), if_pos (by omega), if_pos (by omega), rd_nat l i (by omega), rd_nat l (i - 1) (by omega), e2, ih k (i + 1) (by omega) (by omega) (by omega) (by omega),
   List.drop_eq_getElem_cons (show i - 1 < l.length by omega), show i - 1 + 1 = i by omega, show i + 1 - 1 = i by omega, List.drop_eq_getElem_cons (show i < l.length by omega)]
  by_cases hlt : l[i - 1] ≥ l[i]
  ·rw [if_pos hlt]
   simp only [risingB]
   rw [decide_eq_false (by omega)]
   rfl
  ·rw [if_neg hlt]
   simp only [risingB]
   rw [decide_eq_true (by omega)]
   rfl
theorem l1All_l0 (l : List Int) (lo hi : Int) (hL : l.length ≤ 4000000) : ∀ (d k i : Nat), l.length - i = d → i ≤ l.length → d < k → spec_l1All.l0 k lo hi l (l.length : Int) (i : Int) = some (inB lo hi (l.drop i)) := by
 intro d
 induction d with
 | zero =>
  intro k i h1 h3 h4
  obtain ⟨k, rfl⟩ : ∃ m, k = m + 1 := ⟨k - 1, by omega⟩
  simp only [spec_l1All.l0]
  rw [if_neg (by omega), List.drop_of_length_le (by omega)]
  rfl
 | succ d ih =>
  intro k i h1 h3 h4
  obtain ⟨k, rfl⟩ : ∃ m, k = m + 1 := ⟨k - 1, by omega⟩
  have e2 : wrap64 ((i : Int) + 1) = ((i + 1 : Nat) : Int) := by unfold wrap64; omega
  have e3 : ∀ x : Int, spec_l1In.f x lo hi = some (decide (lo ≤ x) && decide (x ≤ hi)) := fun x => by
   unfold spec_l1In.f
   by_cases h : lo ≤ x
   ·rw [if_pos h, decide_eq_true h]; rfl
   ·rw [if_neg (show ¬ x ≥ lo from h), decide_eq_false h]; rfl
  simp only [spec_l1All.l0]
  rw [if_pos (by omega), if_pos (by omega), if_pos (by omega), rd_nat l i (by omega), e3, Option.bind_some, e2, ih k (i + 1) (by omega) (by omega) (by omega), List.drop_eq_getElem_cons (show i < l.length by omega)]
  unfold inB
  rw [List.all_cons]
  cases (decide (lo ≤ l[i]) && decide (l[i] ≤ hi)) <;> rfl
theorem l1All_f (l : List Int) (lo hi : Int) (hL : l.length ≤ 4000000) (k : Nat) (hk : l.length < k) : spec_l1All.f k l lo hi = some (inB lo hi l) := by
 unfold spec_l1All.f
 exact l1All_l0 l lo hi hL l.length k 0 (by omega) (by omega) hk
theorem rising_len (l : List Int) : ∀ (lo hi : Int), risingB l = true → inB lo hi l = true → (l.length : Int) ≤ hi - lo + 1 ∨ l = [] := by
 induction l with
 | nil => intro lo hi _ _; exact .inr rfl
 | cons a t ih =>
  intro lo hi h1 h2
  unfold inB at h2
  rw [List.all_cons, Bool.and_eq_true, Bool.and_eq_true, decide_eq_true_iff, decide_eq_true_iff] at h2
  obtain ⟨⟨h3, h4⟩, h5⟩ := h2
  left
  cases t with
  | nil => simp; omega
  | cons b t =>
   simp only [risingB, Bool.and_eq_true, decide_eq_true_iff] at h1
   have h6 : inB (a + 1) hi (b :: t) = true := by
    have hr : ∀ (t : List Int) (a b : Int), a < b → risingB (b :: t) = true → ∀ x ∈ b :: t, a < x := by
     intro t
     induction t with
     | nil => intro a b hab _ x hx; simp at hx; omega
     | cons c t ih2 =>
      intro a b hab hr x hx
      simp only [risingB, Bool.and_eq_true, decide_eq_true_iff] at hr
      rcases List.mem_cons.1 hx with rfl | hx
      ·exact hab
      ·have := ih2 b c hr.1 hr.2 x hx; omega
    unfold inB
    rw [List.all_eq_true] at h5 ⊢
    intro x hx
    have h7 := h5 x hx
    have h8 := hr t a b h1.1 h1.2 x hx
    simp only [Bool.and_eq_true, decide_eq_true_iff] at h7 ⊢
    omega
   rcases ih (a + 1) hi h1.2 h6 with h | h
   ·simp at h ⊢; omega
   ·cases h
def figB (w h : Int) (a u : List Int) : Bool :=
 (decide (1 ≤ w) && decide (w ≤ 4) && decide (1 ≤ h) && decide (h ≤ 4)) && (risingB a && (risingB u && (inB 0 (w * (h + 1) - 1) a && inB 0 (h * (w + 1) - 1) u)))
theorem within_f (n lo hi : Int) : impl_within.f n lo hi = some (decide (lo ≤ n) && decide (n ≤ hi)) := by
 unfold impl_within.f
 by_cases h : lo ≤ n
 ·rw [if_pos h, decide_eq_true h]; rfl
 ·rw [if_neg h, decide_eq_false h]; rfl
theorem l1In_f (n lo hi : Int) : spec_l1In.f n lo hi = some (decide (lo ≤ n) && decide (n ≤ hi)) := by
 unfold spec_l1In.f
 by_cases h : lo ≤ n
 ·rw [if_pos h, decide_eq_true h]; rfl
 ·rw [if_neg (show ¬ n ≥ lo from h), decide_eq_false h]; rfl
theorem isGrid_f (w h : Int) : impl_isGrid.f w h = some (decide (1 ≤ w) && decide (w ≤ 4) && decide (1 ≤ h) && decide (h ≤ 4)) := by
 unfold impl_isGrid.f
 rw [within_f, within_f, Option.bind_some, Option.bind_some]
 cases (decide (1 ≤ w) && decide (w ≤ 4)) <;> simp
theorem fiGrid_f (w h : Int) : spec_fiGrid.f w h = some (decide (1 ≤ w) && decide (w ≤ 4) && decide (1 ≤ h) && decide (h ≤ 4)) := by
 unfold spec_fiGrid.f
 rw [l1In_f, l1In_f, Option.bind_some, Option.bind_some]
 cases (decide (1 ≤ w) && decide (w ≤ 4)) <;> simp
theorem grid_bounds {w h : Int} (hg : (decide (1 ≤ w) && decide (w ≤ 4) && decide (1 ≤ h) && decide (h ≤ 4)) = true) : 1 ≤ w ∧ w ≤ 4 ∧ 1 ≤ h ∧ h ≤ 4 := by
 simp only [Bool.and_eq_true, decide_eq_true_iff] at hg; omega
theorem area_bounds {w h : Int} (h1 : 1 ≤ w) (h2 : w ≤ 4) (h3 : 1 ≤ h) (h4 : h ≤ 4) : 2 ≤ w * (h + 1) ∧ w * (h + 1) ≤ 20 ∧ 2 ≤ h * (w + 1) ∧ h * (w + 1) ≤ 20 := by
 have : w = 1 ∨ w = 2 ∨ w = 3 ∨ w = 4 := by omega
 rcases this with rfl | rfl | rfl | rfl <;> omega
theorem IsFigure_f (w h : Int) (a u : List Int) (ha : a.length ≤ 1000000) (hu : u.length ≤ 1000000) (k : Nat) (hk : 1000010 < k) : impl_IsFigure.f k w h a u = some (figB w h a u) := by
 unfold impl_IsFigure.f figB
 rw [isGrid_f, Option.bind_some]
 by_cases hg : (decide (1 ≤ w) && decide (w ≤ 4) && decide (1 ≤ h) && decide (h ≤ 4)) = true
 ·rw [if_pos hg, hg, isRising_f a (by omega) k (by omega), isRising_f u (by omega) k (by omega), Option.bind_some]
  obtain ⟨b1, b2, b3, b4⟩ := grid_bounds hg
  obtain ⟨c1, c2, c3, c4⟩ := area_bounds b1 b2 b3 b4
  have e1 : wrap64 (h + 1) = h + 1 := by unfold wrap64; omega
  have e2 : wrap64 (w + 1) = w + 1 := by unfold wrap64; omega
  have e3 : wrap64 (w * (h + 1)) = w * (h + 1) := by unfold wrap64; omega
  have e4 : wrap64 (h * (w + 1)) = h * (w + 1) := by unfold wrap64; omega
  have e5 : wrap64 (w * (h + 1) - 1) = w * (h + 1) - 1 := by unfold wrap64; omega
  have e6 : wrap64 (h * (w + 1) - 1) = h * (w + 1) - 1 := by unfold wrap64; omega
  unfold impl_Figure_grid.f impl_grid_levels.f impl_grid_uprights.f impl_areWithin.f
  simp only [Option.bind_some, e1, e2, e3, e4, e5, e6]
  have key : ∀ A B C D : Bool, (if A = true then (if B = true then (if C = true then some D else some false) else some false) else some false) = some (true && (A && (B && (C && D)))) := by decide
  exact key _ _ _ _
 ·rw [if_neg hg, Bool.eq_false_iff.mpr hg]
  rfl
theorem fiRises_f (l : List Int) (m : Int) (hm0 : 0 ≤ m) (hm : m ≤ 100) (hl : l.length ≤ 1000000) (k : Nat) (hk : 1000010 < k) : spec_fiRises.f k l m = some (risingB l && inB 0 m l) := by
 unfold spec_fiRises.f
 have e : wrap64 (m + 1) = m + 1 := by unfold wrap64; omega
 have hj : ∀ b : Bool, spec_fiRises.j0 k l b = some (!b && risingB l) := fun b => by
  obtain ⟨k, rfl⟩ : ∃ q, k = q + 1 := ⟨k - 1, by omega⟩
  simp only [spec_fiRises.j0]
  cases b with
  | true => rfl
  | false =>
   rw [if_neg (by simp)]
   by_cases h0 : l.length = 0
   ·have : l = [] := List.length_eq_zero_iff.1 h0
    subst this
    obtain ⟨k, rfl⟩ : ∃ q, k = q + 1 := ⟨k - 1, by omega⟩
    simp only [spec_fiRises.l0]
    rw [if_neg (by simp)]
    rfl
   ·rw [show (1 : Int) = ((1 : Nat) : Int) from rfl, fiRises_l0 l (by omega) (l.length - 1) k 1 rfl (by omega) (by omega) (by omega)]
    rfl
 rw [e, hj, l1All_f l 0 m (by omega) k (by omega), Option.bind_some, hj]
 by_cases hgt : (l.length : Int) > m + 1
 ·rw [if_pos hgt]
  cases h1 : risingB l with
  | false => rfl
  | true =>
   cases h2 : inB 0 m l with
   | false => rfl
   | true =>
    rcases rising_len l 0 m h1 h2 with h | h
    ·omega
    ·subst h; simp at hgt; omega
 ·rw [if_neg hgt, Bool.not_not, Bool.and_comm]
theorem fiGood_f (w h : Int) (a u : List Int) (ha : a.length ≤ 1000000) (hu : u.length ≤ 1000000) (k : Nat) (hk : 1000010 < k) : spec_fiGood.f k w h a u = some (figB w h a u) := by
 unfold spec_fiGood.f figB
 rw [fiGrid_f, Option.bind_some]
 by_cases hg : (decide (1 ≤ w) && decide (w ≤ 4) && decide (1 ≤ h) && decide (h ≤ 4)) = true
 ·rw [if_pos hg, hg]
  obtain ⟨b1, b2, b3, b4⟩ := grid_bounds hg
  obtain ⟨c1, c2, c3, c4⟩ := area_bounds b1 b2 b3 b4
  have e1 : wrap64 (h + 1) = h + 1 := by unfold wrap64; omega
  have e2 : wrap64 (w + 1) = w + 1 := by unfold wrap64; omega
  have e3 : wrap64 (w * (h + 1)) = w * (h + 1) := by unfold wrap64; omega
  have e4 : wrap64 ((w + 1) * h) = h * (w + 1) := by rw [Int.mul_comm]; unfold wrap64; omega
  have e5 : wrap64 (w * (h + 1) - 1) = w * (h + 1) - 1 := by unfold wrap64; omega
  have e6 : wrap64 (h * (w + 1) - 1) = h * (w + 1) - 1 := by unfold wrap64; omega
  rw [e1, e2, e3, e4, e5, e6, fiRises_f a _ (by omega) (by omega) ha k hk, fiRises_f u _ (by omega) (by omega) hu k hk, Option.bind_some, Option.bind_some]
  cases risingB a <;> cases risingB u <;> simp
  cases inB 0 (w * (h + 1) - 1) a <;> simp
 ·rw [if_neg hg, Bool.eq_false_iff.mpr hg]
  rfl


theorem u64_small (n : Int) (h0 : 0 ≤ n) (h1 : n < 2 ^ 60) : IntKind.u64.wrap n = n := by
 have : IntKind.u64.wrap n = n % 18446744073709551616 := by simp [IntKind.wrap, IntKind.bits, IntKind.signed]
 rw [this]; omega
theorem or_u64 (a b : Nat) (ha : a < 2 ^ 60) (hb : b < 2 ^ 60) : Go.bits .or .u64 (a : Int) (b : Int) = ((a ||| b : Nat) : Int) := (bits_nat .u64 60 (by decide) u64_small a b ha hb).2
theorem and_u64 (a b : Nat) (ha : a < 2 ^ 60) (hb : b < 2 ^ 60) : Go.bits .and .u64 (a : Int) (b : Int) = ((a &&& b : Nat) : Int) := (bits_nat .u64 60 (by decide) u64_small a b ha hb).1
theorem pow_lt60 {n : Nat} (h : n < 60) : 2 ^ n < 2 ^ 60 := Nat.pow_lt_pow_right (by decide) h
theorem shl_u64 (n : Nat) (h : n < 60) : shl .u64 1 (n : Int) = ((2 ^ n : Nat) : Int) := by
 unfold shl
 rw [Int.toNat_natCast, show min n IntKind.u64.bits = n from Nat.min_eq_left (by show n ≤ 64; omega), Int.one_mul]
 have h2 := pow_lt60 h
 rw [u64_small _ (by exact_mod_cast Nat.zero_le _) (by exact_mod_cast h2)]
 norm_cast
def bitsFrom (s : Nat) (l : List Int) (m : Nat) : Nat := l.foldl (fun m k => m ||| 2 ^ (s + k.toNat)) m
theorem bitsFrom_test (s : Nat) (l : List Int) (i : Nat) : ∀ m, (bitsFrom s l m).testBit i = (m.testBit i || l.any fun k => decide (s + k.toNat = i)) := by
 induction l with
 | nil => intro m; simp [bitsFrom]
 | cons a t ih =>
  intro m
  have := ih (m ||| 2 ^ (s + a.toNat))
  unfold bitsFrom at this ⊢
  rw [List.foldl_cons, this, Nat.testBit_or, Nat.testBit_two_pow, List.any_cons, Bool.or_assoc]
theorem inB_mem {lo hi : Int} {l : List Int} (h : inB lo hi l = true) (x : Int) (hx : x ∈ l) : lo ≤ x ∧ x ≤ hi := by
 unfold inB at h
 rw [List.all_eq_true] at h
 have := h x hx
 simpa using this
def figMask (w h : Int) (a u : List Int) : Nat := bitsFrom (w * (h + 1)).toNat u (bitsFrom 0 a 0)
theorem figMask_level {w h : Int} {a u : List Int} (hf : figB w h a u = true) (e : Nat) (he : (e : Int) < w * (h + 1)) : (figMask w h a u).testBit e = decide ((e : Int) ∈ a) := by
 unfold figB at hf
 simp only [Bool.and_eq_true] at hf
 obtain ⟨hg, -, -, hi1, hi2⟩ := hf
 unfold figMask
 rw [bitsFrom_test, bitsFrom_test, Nat.zero_testBit, Bool.false_or]
 rw [show (u.any fun k => decide ((w * (h + 1)).toNat + k.toNat = e)) = false from by
  rw [List.any_eq_false]; intro k hk; have := inB_mem hi2 k hk; simp; omega]
 rw [Bool.or_false, Bool.eq_iff_iff, List.any_eq_true, decide_eq_true_iff]
 constructor
 ·rintro ⟨k, hk, hke⟩
  have := inB_mem hi1 k hk
  simp at hke
  rw [show (e : Int) = k by omega]
  exact hk
 ·intro hm
  exact ⟨_, hm, by simp⟩
theorem figMask_upright {w h : Int} {a u : List Int} (hf : figB w h a u = true) (e : Nat) : (figMask w h a u).testBit ((w * (h + 1)).toNat + e) = decide ((e : Int) ∈ u) := by
 unfold figB at hf
 simp only [Bool.and_eq_true] at hf
 obtain ⟨hg, -, -, hi1, hi2⟩ := hf
 obtain ⟨b1, b2, b3, b4⟩ := grid_bounds (by simp only [Bool.and_eq_true]; exact hg)
 obtain ⟨c1, c2, c3, c4⟩ := area_bounds b1 b2 b3 b4
 unfold figMask
 rw [bitsFrom_test, bitsFrom_test, Nat.zero_testBit, Bool.false_or]
 rw [show (a.any fun k => decide (0 + k.toNat = (w * (h + 1)).toNat + e)) = false from by
  rw [List.any_eq_false]; intro k hk; have := inB_mem hi1 k hk; simp; omega]
 rw [Bool.false_or, Bool.eq_iff_iff, List.any_eq_true, decide_eq_true_iff]
 constructor
 ·rintro ⟨k, hk, hke⟩
  have := inB_mem hi2 k hk
  simp at hke
  rw [show (e : Int) = k by omega]
  exact hk
 ·intro hm
  exact ⟨_, hm, by simp⟩
theorem set_l1 (w h : Int) (a u : List Int) (hL : u.length ≤ 4000000) (hw : wrap64 (w * wrap64 (h + 1)) = w * (h + 1)) (h0 : 0 ≤ w * (h + 1)) (h1 : w * (h + 1) ≤ 20) (hu : ∀ k ∈ u, 0 ≤ k ∧ k ≤ 20) : ∀ (d k i : Nat) (m : Nat), u.length - i = d → i ≤ u.length → d < k → m < 2 ^ 60 →
  impl_Figure_set.l1 k (m : Int) u (u.length : Int) (i : Int) w h a u = some ((bitsFrom (w * (h + 1)).toNat (u.drop i) m : Nat) : Int) := by
 intro d
 induction d with
 | zero =>
  intro k i m h2 h3 h4 h5
  obtain ⟨k, rfl⟩ : ∃ q, k = q + 1 := ⟨k - 1, by omega⟩
  simp only [impl_Figure_set.l1]
  rw [if_neg (by omega), List.drop_of_length_le (by omega)]
  rfl
 | succ d ih =>
  intro k i m h2 h3 h4 h5
  obtain ⟨k, rfl⟩ : ∃ q, k = q + 1 := ⟨k - 1, by omega⟩
  have hi : i < u.length := by omega
  have hk := hu u[i] (List.getElem_mem hi)
  have e2 : wrap64 ((i : Int) + 1) = ((i + 1 : Nat) : Int) := by unfold wrap64; omega
  have e3 : wrap64 (w * (h + 1) + u[i]) = (((w * (h + 1)).toNat + u[i].toNat : Nat) : Int) := by unfold wrap64; omega
  have hlt : (w * (h + 1)).toNat + u[i].toNat < 60 := by omega
  simp only [impl_Figure_set.l1]
  unfold impl_Figure_grid.f impl_grid_levels.f
  rw [if_pos (by omega), if_pos (by omega), if_pos (by omega), rd_nat u i hi, Option.bind_some, Option.bind_some, hw, e3, if_pos (by omega), shl_u64 _ hlt, or_u64 _ _ h5 (pow_lt60 hlt), e2,
   ih k (i + 1) _ (by omega) (by omega) (by omega) (Nat.or_lt_two_pow h5 (pow_lt60 hlt)), List.drop_eq_getElem_cons hi]
  rfl
theorem set_l0 (w h : Int) (a u : List Int) (hL : a.length ≤ 4000000) (hLu : u.length ≤ 4000000) (hw : wrap64 (w * wrap64 (h + 1)) = w * (h + 1)) (h0 : 0 ≤ w * (h + 1)) (h1 : w * (h + 1) ≤ 20) (ha : ∀ k ∈ a, 0 ≤ k ∧ k ≤ 20) (hu : ∀ k ∈ u, 0 ≤ k ∧ k ≤ 20) : ∀ (d k i : Nat) (m : Nat), a.length - i = d → i ≤ a.length → d + u.length + 2 < k → m < 2 ^ 60 →
  impl_Figure_set.l0 k (m : Int) a (a.length : Int) (i : Int) w h a u = some ((bitsFrom (w * (h + 1)).toNat u (bitsFrom 0 (a.drop i) m) : Nat) : Int) := by
 intro d
 induction d with
 | zero =>
  intro k i m h2 h3 h4 h5
  obtain ⟨k, rfl⟩ : ∃ q, k = q + 1 := ⟨k - 1, by omega⟩
  simp only [impl_Figure_set.l0]
  rw [if_neg (by omega), List.drop_of_length_le (by omega)]
  exact set_l1 w h a u hLu hw h0 h1 hu u.length k 0 m (by omega) (by omega) (by omega) h5
 | succ d ih =>
  intro k i m h2 h3 h4 h5
  obtain ⟨k, rfl⟩ : ∃ q, k = q + 1 := ⟨k - 1, by omega⟩
  have hi : i < a.length := by omega
  have hk := ha a[i] (List.getElem_mem hi)
  have e2 : wrap64 ((i : Int) + 1) = ((i + 1 : Nat) : Int) := by unfold wrap64; omega
  have c1 : (i : Int) < (a.length : Int) := Int.ofNat_lt.2 hi
  have c2 : (0 : Int) ≤ (i : Int) := Int.natCast_nonneg _
  have hr := rd_nat a i hi
  have hd := List.drop_eq_getElem_cons hi
  have n1 : a.length - (i + 1) = d := by clear hk hr hd c1 c2 ih h5 hw h0 h1 hu ha; omega
  have n2 : i + 1 ≤ a.length := hi
  have n3 : d + u.length + 2 < k := by clear hk hr hd c1 c2 ih h5 hw h0 h1 hu ha; omega
  have hih := fun m hm => ih k (i + 1) m n1 n2 n3 hm
  generalize a[i] = x at hk hr hd
  obtain ⟨hk1, hk2⟩ := hk
  obtain ⟨y, rfl⟩ : ∃ y : Nat, x = (y : Int) := ⟨x.toNat, (Int.toNat_of_nonneg hk1).symm⟩
  have hlt : y < 60 := by clear hr hd c1 c2 ih h5 hw h0 h1 hu ha hih; omega
  simp only [impl_Figure_set.l0]
  rw [if_pos c1, if_pos c2, if_pos c1, hr, if_pos hk1, shl_u64 _ hlt, or_u64 _ _ h5 (pow_lt60 hlt), e2, hih _ (Nat.or_lt_two_pow h5 (pow_lt60 hlt)), hd]
  unfold bitsFrom
  rw [List.foldl_cons, Nat.zero_add, Int.toNat_natCast]
theorem set_f {w h : Int} {a u : List Int} (hf : figB w h a u = true) (ha : a.length ≤ 1000000) (hu : u.length ≤ 1000000) (k : Nat) (hk : 2000010 < k) : impl_Figure_set.f k w h a u = some ((figMask w h a u : Nat) : Int) := by
 unfold figB at hf
 simp only [Bool.and_eq_true] at hf
 obtain ⟨hg, -, -, hi1, hi2⟩ := hf
 obtain ⟨b1, b2, b3, b4⟩ := grid_bounds (by simp only [Bool.and_eq_true]; exact hg)
 obtain ⟨c1, c2, c3, c4⟩ := area_bounds b1 b2 b3 b4
 have e1 : wrap64 (h + 1) = h + 1 := by unfold wrap64; omega
 have e3 : wrap64 (w * (h + 1)) = w * (h + 1) := by unfold wrap64; omega
 unfold impl_Figure_set.f figMask
 have q := set_l0 w h a u (by omega) (by omega) (by rw [e1, e3]) (by omega) (by omega) (fun k hk => by have := inB_mem hi1 k hk; omega) (fun k hk => by have := inB_mem hi2 k hk; omega) a.length k 0 0 (by omega) (by omega) (by clear hi1 hi2; omega) (by decide)
 rw [List.drop_zero] at q
 exact q


structure GridOK (w h : Int) : Prop where
  w1 : 1 ≤ w
  w4 : w ≤ 4
  h1 : 1 ≤ h
  h4 : h ≤ 4
theorem gridOK_of {w h : Int} {a u : List Int} (hf : figB w h a u = true) : GridOK w h := by
  unfold figB at hf
  simp only [Bool.and_eq_true] at hf
  obtain ⟨b1, b2, b3, b4⟩ := grid_bounds (by simp only [Bool.and_eq_true]; exact hf.1)
  exact ⟨b1, b2, b3, b4⟩
theorem prod_b {w y : Int} (h1 : 1 ≤ w) (h4 : w ≤ 5) (hy : 0 ≤ y) (hy4 : y ≤ 4) : 0 ≤ y * w ∧ y * w ≤ 20 := by
  have : y = 0 ∨ y = 1 ∨ y = 2 ∨ y = 3 ∨ y = 4 := by omega
  rcases this with rfl | rfl | rfl | rfl | rfl <;> omega
theorem level_f {w h x y : Int} (g : GridOK w h) (hx : 0 ≤ x) (hx4 : x ≤ 4) (hy : 0 ≤ y) (hy4 : y ≤ 4) : impl_grid_level.f w h x y = some ((2 ^ (y * w + x).toNat : Nat) : Int) := by
  obtain ⟨p1, p2⟩ := prod_b g.w1 (by have := g.w4; omega) hy hy4
  have e1 : wrap64 (y * w) = y * w := by unfold wrap64; omega
  have e2 : wrap64 (y * w + x) = (((y * w + x).toNat : Nat) : Int) := by unfold wrap64; omega
  unfold impl_grid_level.f
  rw [e1, e2, if_pos (Int.natCast_nonneg _), shl_u64 _ (by omega)]
theorem upright_f {w h x y : Int} (g : GridOK w h) (hx : 0 ≤ x) (hx4 : x ≤ 4) (hy : 0 ≤ y) (hy4 : y ≤ 4) : impl_grid_upright.f w h x y = some ((2 ^ ((w * (h + 1)).toNat + (y * (w + 1) + x).toNat) : Nat) : Int) := by
  obtain ⟨p1, p2⟩ := prod_b (w := w + 1) (by have := g.w1; omega) (by have := g.w4; omega) hy hy4
  obtain ⟨c1, c2, -, -⟩ := area_bounds g.w1 g.w4 g.h1 g.h4
  have w1 := g.w1
  have w4 := g.w4
  have h1 := g.h1
  have h4 := g.h4
  have e0 : wrap64 (h + 1) = h + 1 := by unfold wrap64; omega
  have e1 : wrap64 (w + 1) = w + 1 := by unfold wrap64; omega
  have e2 : wrap64 (w * (h + 1)) = w * (h + 1) := by unfold wrap64; omega
  have e3 : wrap64 (y * (w + 1)) = y * (w + 1) := by unfold wrap64; omega
  have e4 : wrap64 (w * (h + 1) + y * (w + 1)) = w * (h + 1) + y * (w + 1) := by unfold wrap64; omega
  have e5 : wrap64 (w * (h + 1) + y * (w + 1) + x) = (((w * (h + 1)).toNat + (y * (w + 1) + x).toNat : Nat) : Int) := by unfold wrap64; omega
  unfold impl_grid_upright.f impl_grid_levels.f
  rw [Option.bind_some, e0, e1, e2, e3, e4, e5, if_pos (Int.natCast_nonneg _), shl_u64 _ (by omega)]
theorem l1Has_l0 (l : List Int) (n : Int) (hL : l.length ≤ 4000000) : ∀ (d k i : Nat), l.length - i = d → i ≤ l.length → d < k → spec_l1Has.l0 k n l (l.length : Int) (i : Int) = some (decide (n ∈ l.drop i)) := by
  intro d
  induction d with
  | zero =>
    intro k i h1 h3 h4
    obtain ⟨k, rfl⟩ : ∃ m, k = m + 1 := ⟨k - 1, by omega⟩
    simp only [spec_l1Has.l0]
    rw [if_neg (by omega), List.drop_of_length_le (by omega)]
    rfl
  | succ d ih =>
    intro k i h1 h3 h4
    obtain ⟨k, rfl⟩ : ∃ m, k = m + 1 := ⟨k - 1, by omega⟩
    have e2 : wrap64 ((i : Int) + 1) = ((i + 1 : Nat) : Int) := by unfold wrap64; omega
    simp only [spec_l1Has.l0]
    rw [if_pos (by omega), if_pos (by omega), if_pos (by omega), rd_nat l i (by omega), e2, ih k (i + 1) (by omega) (by omega) (by omega), List.drop_eq_getElem_cons (show i < l.length by omega)]
    by_cases hn : l[i] = n
    · rw [if_pos hn, decide_eq_true (show n ∈ l[i] :: l.drop (i + 1) by rw [hn]; exact List.mem_cons_self)]
    · rw [if_neg hn]
      congr 1
      rw [decide_eq_decide, List.mem_cons]
      constructor
      · exact Or.inr
      · rintro (h | h)
        · exact absurd h.symm hn
        · exact h
theorem l1Has_f (l : List Int) (n : Int) (hL : l.length ≤ 4000000) (k : Nat) (hk : l.length < k) : spec_l1Has.f k l n = some (decide (n ∈ l)) := by
  unfold spec_l1Has.f
  exact l1Has_l0 l n hL l.length k 0 (by omega) (by omega) hk
theorem fiHas_level {w h : Int} {a u : List Int} (g : GridOK w h) (hf : figB w h a u = true) (ha : a.length ≤ 1000000) (k : Nat) (hk : 1000000 < k) (x y : Int) (hx0 : 0 ≤ x) (hx1 : x < w) (hy0 : 0 ≤ y) (hy1 : y ≤ h) :
    spec_fiHas.f k w h a u false x y = some ((figMask w h a u).testBit (y * w + x).toNat) := by
  have w1 := g.w1
  have w4 := g.w4
  have h1 := g.h1
  have h4 := g.h4
  obtain ⟨p1, p2⟩ := prod_b (w := w) (y := y) w1 (by omega) hy0 (by omega)
  have e0 : wrap64 (w - 1) = w - 1 := by unfold wrap64; omega
  have e1 : wrap64 (y * w) = y * w := by unfold wrap64; omega
  have e2 : wrap64 (y * w + x) = y * w + x := by unfold wrap64; omega
  have hlt : ((y * w + x).toNat : Int) < w * (h + 1) := by
    have c1 : y = 0 ∨ y = 1 ∨ y = 2 ∨ y = 3 ∨ y = 4 := by omega
    have c2 : h = 1 ∨ h = 2 ∨ h = 3 ∨ h = 4 := by omega
    clear e0 e1 e2 hf
    rcases c2 with rfl | rfl | rfl | rfl <;> rcases c1 with rfl | rfl | rfl | rfl | rfl <;> omega
  have ht : ((y * w + x).toNat : Int) = y * w + x := by omega
  unfold spec_fiHas.f spec_fiEdge.f
  rw [if_neg (by decide), l1In_f, Option.bind_some, e0, decide_eq_true hx0, decide_eq_true (show x ≤ w - 1 by omega), if_pos (show (true && true) = true from rfl), l1In_f, Option.bind_some, decide_eq_true hy0, decide_eq_true hy1, Option.bind_some, if_neg (show ¬ false = true by decide), e1, e2, l1Has_f a _ (by omega) k (by omega), Option.bind_some, figMask_level hf _ hlt, ht]
theorem fiHas_upright {w h : Int} {a u : List Int} (g : GridOK w h) (hf : figB w h a u = true) (hu : u.length ≤ 1000000) (k : Nat) (hk : 1000000 < k) (x y : Int) (hx0 : 0 ≤ x) (hx1 : x ≤ w) (hy0 : 0 ≤ y) (hy1 : y < h) :
    spec_fiHas.f k w h a u true x y = some ((figMask w h a u).testBit ((w * (h + 1)).toNat + (y * (w + 1) + x).toNat)) := by
  have w1 := g.w1
  have w4 := g.w4
  have h1 := g.h1
  have h4 := g.h4
  obtain ⟨p1, p2⟩ := prod_b (w := w + 1) (y := y) (by omega) (by omega) hy0 (by omega)
  have e0 : wrap64 (h - 1) = h - 1 := by unfold wrap64; omega
  have e3 : wrap64 (w + 1) = w + 1 := by unfold wrap64; omega
  have e1 : wrap64 (y * (w + 1)) = y * (w + 1) := by unfold wrap64; omega
  have e2 : wrap64 (y * (w + 1) + x) = y * (w + 1) + x := by unfold wrap64; omega
  have ht : ((y * (w + 1) + x).toNat : Int) = y * (w + 1) + x := by omega
  unfold spec_fiHas.f spec_fiEdge.f
  rw [if_pos rfl, l1In_f, Option.bind_some, e0, e3, decide_eq_true hx0, decide_eq_true hx1, if_pos (show (true && true) = true from rfl), l1In_f, Option.bind_some, Option.bind_some, if_pos rfl, e1, e2, l1Has_f u _ (by omega) k (by omega), Option.bind_some, figMask_upright hf, ht]
theorem and_two (e m : Nat) : 2 ^ e &&& m = if m.testBit e = true then 2 ^ e else 0 := by
  apply Nat.eq_of_testBit_eq
  intro i
  rw [Nat.testBit_and, Nat.testBit_two_pow]
  by_cases h : m.testBit e = true
  · rw [if_pos h, Nat.testBit_two_pow]
    by_cases hi : e = i
    · subst hi; simp [h]
    · simp [hi]
  · rw [if_neg h, Nat.zero_testBit]
    by_cases hi : e = i
    · subst hi; simpa using h
    · simp [hi]


def inC (w h x y : Int) : Prop := (0 ≤ x ∧ x ≤ w) ∧ (0 ≤ y ∧ y ≤ h)
instance (w h x y : Int) : Decidable (inC w h x y) := by unfold inC; infer_instance
def btwE (w h x y d : Int) : Option Nat :=
  if inC w h x y then
    if d = 110 then (if 1 ≤ y then some ((w * (h + 1)).toNat + ((y - 1) * (w + 1) + x).toNat) else none)
    else if d = 101 then (if x < w then some (y * w + x).toNat else none)
    else if d = 115 then (if y < h then some ((w * (h + 1)).toNat + (y * (w + 1) + x).toNat) else none)
    else (if 1 ≤ x then some (y * w + (x - 1)).toNat else none)
  else none

theorem rising_ext : ∀ {l m : List Int}, l.Pairwise (· < ·) → m.Pairwise (· < ·) → (∀ x, x ∈ l ↔ x ∈ m) → l = m
  | [], [], _, _, _ => rfl
  | [], b :: m, _, _, h => by have := (h b).2 List.mem_cons_self; cases this
  | a :: l, [], _, _, h => by have := (h a).1 List.mem_cons_self; cases this
  | a :: l, b :: m, h1, h2, h => by
    rw [List.pairwise_cons] at h1 h2
    have e : a = b := by
      rcases List.mem_cons.1 ((h a).1 List.mem_cons_self) with e | e
      · exact e
      · rcases List.mem_cons.1 ((h b).2 List.mem_cons_self) with e2 | e2
        · exact e2.symm
        · have := h2.1 a e; have := h1.1 b e2; omega
    subst e
    rw [rising_ext h1.2 h2.2 (fun x => ?_)]
    constructor
    · intro hx
      rcases List.mem_cons.1 ((h x).1 (List.mem_cons_of_mem _ hx)) with e | e
      · have := h1.1 x hx; omega
      · exact e
    · intro hx
      rcases List.mem_cons.1 ((h x).2 (List.mem_cons_of_mem _ hx)) with e | e
      · have := h2.1 x hx; omega
      · exact e
theorem pw_rising : ∀ {l : List Int}, l.Pairwise (· < ·) → risingB l = true
  | [], _ => rfl
  | [a], _ => rfl
  | a :: b :: t, h => by
    rw [List.pairwise_cons] at h
    simp only [risingB, Bool.and_eq_true, decide_eq_true_iff]
    exact ⟨h.1 b List.mem_cons_self, pw_rising h.2⟩
def setL (n : Nat) (p : Nat → Bool) : List Int := ((List.range n).filter p).map fun n : Nat => (n : Int)
theorem setL_pw (n : Nat) (p : Nat → Bool) : (setL n p).Pairwise (· < ·) := by
  unfold setL
  rw [List.pairwise_map]
  exact (List.Pairwise.filter p List.pairwise_lt_range).imp (fun h => by omega)
theorem setL_mem (n : Nat) (p : Nat → Bool) (x : Int) : x ∈ setL n p ↔ ∃ i : Nat, (i : Int) = x ∧ i < n ∧ p i = true := by
  unfold setL
  rw [List.mem_map]
  constructor
  · rintro ⟨i, hi, rfl⟩
    rw [List.mem_filter, List.mem_range] at hi
    exact ⟨i, rfl, hi⟩
  · rintro ⟨i, rfl, hi⟩
    exact ⟨i, by rw [List.mem_filter, List.mem_range]; exact hi, rfl⟩
theorem setL_len (n : Nat) (p : Nat → Bool) : (setL n p).length ≤ n := by
  unfold setL
  rw [List.length_map]
  have := List.length_filter_le p (List.range n)
  rw [List.length_range] at this
  exact this
theorem setL_congr {n : Nat} {p q : Nat → Bool} (h : ∀ i, i < n → p i = q i) : setL n p = setL n q := by
  unfold setL
  congr 1
  exact List.filter_congr (fun i hi => h i (List.mem_range.1 hi))
theorem setL_filter (n : Nat) (p : Nat → Bool) (q : Int → Bool) : (setL n p).filter q = setL n (fun i => p i && q (i : Int)) := by
  unfold setL
  rw [List.filter_map, List.filter_filter]
  congr 1
  apply List.filter_congr
  intro i _
  exact Bool.and_comm _ _
theorem setL_in (n : Nat) (p : Nat → Bool) (i : Nat) : (i : Int) ∈ setL n p ↔ i < n ∧ p i = true := by
  rw [setL_mem]
  constructor
  · rintro ⟨j, hj, h⟩
    have : j = i := by omega
    subst this
    exact h
  · intro h; exact ⟨i, rfl, h⟩
theorem setL_succ (n : Nat) (p : Nat → Bool) : setL (n + 1) p = setL n p ++ if p n = true then [(n : Int)] else [] := by
  unfold setL
  rw [List.range_succ, List.filter_append, List.map_append]
  congr 1
  cases h : p n with
  | true => rw [List.filter_cons_of_pos h]; rfl
  | false => rw [List.filter_cons_of_neg (by rw [h]; simp)]; rfl


def rowA (w h : Int) (M : Nat) : List Int := setL (w * (h + 1)).toNat fun i => M.testBit i
def rowU (w h : Int) (M : Nat) : List Int := setL (h * (w + 1)).toNat fun i => M.testBit ((w * (h + 1)).toNat + i)
def figN (w h : Int) : Nat := (w * (h + 1)).toNat + (h * (w + 1)).toNat
theorem figN_le {w h : Int} (g : GridOK w h) : figN w h ≤ 40 ∧ (w * (h + 1)).toNat ≤ 20 ∧ (h * (w + 1)).toNat ≤ 20 := by
  obtain ⟨c1, c2, c3, c4⟩ := area_bounds g.w1 g.w4 g.h1 g.h4
  unfold figN
  omega
theorem rowA_len {w h : Int} (g : GridOK w h) (M : Nat) : (rowA w h M).length ≤ 20 := Nat.le_trans (setL_len _ _) (figN_le g).2.1
theorem rowU_len {w h : Int} (g : GridOK w h) (M : Nat) : (rowU w h M).length ≤ 20 := Nat.le_trans (setL_len _ _) (figN_le g).2.2
theorem pow_figN {w h : Int} (g : GridOK w h) {M : Nat} (hM : M < 2 ^ figN w h) : M < 2 ^ 60 := Nat.lt_of_lt_of_le hM (Nat.pow_le_pow_right (by omega) (by have := (figN_le g).1; omega))
theorem figMask_figN {w h : Int} {a u : List Int} (hf : figB w h a u = true) : figMask w h a u < 2 ^ figN w h := by
  have g := gridOK_of hf
  obtain ⟨c1, c2, c3, c4⟩ := area_bounds g.w1 g.w4 g.h1 g.h4
  unfold figB at hf
  simp only [Bool.and_eq_true] at hf
  obtain ⟨hg, -, -, hi1, hi2⟩ := hf
  apply Nat.lt_pow_two_of_testBit
  intro i hi
  unfold figN at hi
  unfold figMask
  rw [bitsFrom_test, bitsFrom_test, Nat.zero_testBit, Bool.false_or, Bool.or_eq_false_iff]
  constructor
  · rw [List.any_eq_false]
    intro x hx
    have hb := inB_mem hi1 x hx
    simp
    omega
  · rw [List.any_eq_false]
    intro x hx
    have hb := inB_mem hi2 x hx
    simp
    omega
theorem rowA_in {w h : Int} {M i : Nat} (hi : i < (w * (h + 1)).toNat) : (i : Int) ∈ rowA w h M ↔ M.testBit i = true := by
  unfold rowA; rw [setL_in]; exact ⟨fun h => h.2, fun h => ⟨hi, h⟩⟩
theorem rowU_in {w h : Int} {M i : Nat} (hi : i < (h * (w + 1)).toNat) : (i : Int) ∈ rowU w h M ↔ M.testBit ((w * (h + 1)).toNat + i) = true := by
  unfold rowU; rw [setL_in]; exact ⟨fun h => h.2, fun h => ⟨hi, h⟩⟩
theorem rowA_b {w h : Int} {M : Nat} : ∀ x ∈ rowA w h M, 0 ≤ x ∧ x < ((w * (h + 1)).toNat : Int) := fun x hx => by
  unfold rowA at hx
  rw [setL_mem] at hx
  obtain ⟨i, rfl, hi, -⟩ := hx
  omega
theorem rowU_b {w h : Int} {M : Nat} : ∀ x ∈ rowU w h M, 0 ≤ x ∧ x < ((h * (w + 1)).toNat : Int) := fun x hx => by
  unfold rowU at hx
  rw [setL_mem] at hx
  obtain ⟨i, rfl, hi, -⟩ := hx
  omega


def diffN (s g : Nat) : Nat := s ^^^ (s &&& g)
theorem diffN_test (s g i : Nat) : (diffN s g).testBit i = (s.testBit i && !g.testBit i) := by
  unfold diffN; rw [Nat.testBit_xor, Nat.testBit_and]; cases s.testBit i <;> cases g.testBit i <;> rfl

theorem figB_rows {w h : Int} (g : GridOK w h) (M : Nat) : figB w h (rowA w h M) (rowU w h M) = true := by
 obtain ⟨c1, c2, c3, c4⟩ := area_bounds g.w1 g.w4 g.h1 g.h4
 have w1 := g.w1
 have w4 := g.w4
 have h1 := g.h1
 have h4 := g.h4
 unfold figB
 simp only [Bool.and_eq_true, decide_eq_true_eq]
 refine ⟨⟨⟨⟨w1, w4⟩, h1⟩, h4⟩, pw_rising (setL_pw _ _), pw_rising (setL_pw _ _), ?_, ?_⟩
 ·unfold inB
  rw [List.all_eq_true]
  intro x hx
  have := rowA_b x hx
  simp only [Bool.and_eq_true, decide_eq_true_eq]
  omega
 ·unfold inB
  rw [List.all_eq_true]
  intro x hx
  have := rowU_b x hx
  simp only [Bool.and_eq_true, decide_eq_true_eq]
  omega
theorem figMask_rows {w h : Int} (g : GridOK w h) {M : Nat} (hM : M < 2 ^ figN w h) : figMask w h (rowA w h M) (rowU w h M) = M := by
 have hf := figB_rows g M
 obtain ⟨c1, c2, c3, c4⟩ := area_bounds g.w1 g.w4 g.h1 g.h4
 have hm := figMask_figN hf
 apply Nat.eq_of_testBit_eq
 intro i
 rcases Nat.lt_or_ge i (w * (h + 1)).toNat with hi | hi
 ·rw [figMask_level hf i (by omega)]
  rw [Bool.eq_iff_iff, decide_eq_true_iff]
  exact rowA_in hi
 ·rcases Nat.lt_or_ge i (figN w h) with hi2 | hi2
  ·obtain ⟨j, rfl⟩ : ∃ j, i = (w * (h + 1)).toNat + j := ⟨i - (w * (h + 1)).toNat, by omega⟩
   rw [figMask_upright hf j]
   rw [Bool.eq_iff_iff, decide_eq_true_iff]
   exact rowU_in (by unfold figN at hi2; omega)
  ·rw [Nat.testBit_lt_two_pow (Nat.lt_of_lt_of_le hm (Nat.pow_le_pow_right (by omega) hi2)), Nat.testBit_lt_two_pow (Nat.lt_of_lt_of_le hM (Nat.pow_le_pow_right (by omega) hi2))]
theorem ins_ok {l : List Int} {x : Int} {i : Nat} (hp : l.Pairwise (· < ·)) (h1 : ∀ y ∈ l.take i, y < x) (h2 : ∀ y ∈ l.drop i, x < y) : (l.take i ++ [x] ++ l.drop i).Pairwise (· < ·) ∧ (∀ y, y ∈ l.take i ++ [x] ++ l.drop i ↔ y ∈ l ∨ y = x) ∧ (l.take i ++ [x] ++ l.drop i).length ≤ l.length + 1 := by
 have hp2 := hp
 rw [← List.take_append_drop i l, List.pairwise_append] at hp2
 obtain ⟨p1, p2, p3⟩ := hp2
 refine ⟨?_, fun y => ?_, ?_⟩
 ·rw [List.pairwise_append, List.pairwise_append]
  refine ⟨⟨p1, List.pairwise_singleton _ _, fun a ha b hb => ?_⟩, p2, fun a ha b hb => ?_⟩
  ·rw [List.mem_singleton] at hb
   subst hb
   exact h1 a ha
  ·rw [List.mem_append, List.mem_singleton] at ha
   rcases ha with ha | rfl
   ·exact p3 a ha b hb
   ·exact h2 b hb
 ·rw [List.mem_append, List.mem_append, List.mem_singleton]
  have : y ∈ l ↔ y ∈ l.take i ∨ y ∈ l.drop i := by rw [← List.mem_append, List.take_append_drop]
  rw [this]
  constructor
  ·rintro ((h | h) | h)
   ·exact .inl (.inl h)
   ·exact .inr h
   ·exact .inl (.inr h)
  ·rintro ((h | h) | h)
   ·exact .inl (.inl h)
   ·exact .inr h
   ·exact .inl (.inr h)
 ·rw [List.length_append, List.length_append, List.length_take, List.length_drop, List.length_singleton]
  omega
theorem l1Put_l0 (l : List Int) (x : Int) (hp : l.Pairwise (· < ·)) (hL : l.length ≤ 4000000) : ∀ (d k i : Nat), l.length - i = d → i ≤ l.length → d < k → (∀ y ∈ l.take i, y < x) → ∃ r, spec_l1Put.l0 k l x (i : Int) = some r ∧ r.Pairwise (· < ·) ∧ (∀ y, y ∈ r ↔ y ∈ l ∨ y = x) ∧ r.length ≤ l.length + 1 := by
 intro d
 induction d with
 | zero =>
  intro k i h1 h2 h3 h4
  obtain ⟨k, rfl⟩ : ∃ m, k = m + 1 := ⟨k - 1, by omega⟩
  obtain rfl : i = l.length := by omega
  refine ⟨_, ?_, ins_ok hp h4 (fun y hy => by rw [List.drop_length] at hy; cases hy)⟩
  simp only [spec_l1Put.l0, Option.bind_some, Int.toNat_natCast, List.nil_append, List.length_nil]
  rw [if_neg (by omega), if_pos (by omega), if_pos (by omega), if_pos (by rw [List.length_take]; omega), if_pos (by rw [List.length_take]; omega), if_pos (by rw [List.length_append, List.length_take, List.length_drop, List.length_singleton]; omega)]
 | succ d ih =>
  intro k i h1 h2 h3 h4
  obtain ⟨k, rfl⟩ : ∃ m, k = m + 1 := ⟨k - 1, by omega⟩
  have hi : i < l.length := by omega
  have e2 : wrap64 ((i : Int) + 1) = ((i + 1 : Nat) : Int) := by unfold wrap64; omega
  simp only [spec_l1Put.l0, Option.bind_some, Int.toNat_natCast, List.nil_append, List.length_nil]
  rw [if_pos (by omega), if_pos (by omega), rd_nat l i hi, e2]
  by_cases hlt : l[i] < x
  ·rw [if_pos hlt]
   refine ih k (i + 1) (by omega) (by omega) (by omega) (fun y hy => ?_)
   rw [List.take_succ_eq_append_getElem hi, List.mem_append, List.mem_singleton] at hy
   rcases hy with hy | rfl
   ·exact h4 y hy
   ·exact hlt
  ·rw [if_neg hlt]
   by_cases he : l[i] = x
   ·rw [if_pos he]
    refine ⟨l, rfl, hp, fun y => ⟨fun h => .inl h, ?_⟩, by omega⟩
    rintro (h | rfl)
    ·exact h
    ·rw [← he]; exact List.getElem_mem hi
   ·have hd : ∀ y ∈ l.drop i, x < y := fun y hy => by
     rw [List.drop_eq_getElem_cons hi] at hy
     have hp2 := hp
     rw [← List.take_append_drop i l, List.pairwise_append] at hp2
     have p2 := hp2.2.1
     rw [List.drop_eq_getElem_cons hi, List.pairwise_cons] at p2
     rcases List.mem_cons.1 hy with rfl | hy
     ·omega
     ·have := p2.1 y hy; omega
    refine ⟨_, ?_, ins_ok hp h4 hd⟩
    rw [if_neg he, if_pos (by omega), if_pos (by rw [List.length_take]; omega), if_pos (by rw [List.length_take]; omega), if_pos (by rw [List.length_append, List.length_take, List.length_drop, List.length_singleton]; omega)]
theorem l1Put_f (l : List Int) (x : Int) (hp : l.Pairwise (· < ·)) (hL : l.length ≤ 4000000) (k : Nat) (hk : l.length < k) : ∃ r, spec_l1Put.f k l x = some r ∧ r.Pairwise (· < ·) ∧ (∀ y, y ∈ r ↔ y ∈ l ∨ y = x) ∧ r.length ≤ l.length + 1 := by
 unfold spec_l1Put.f
 exact l1Put_l0 l x hp hL l.length k 0 (by omega) (by omega) hk (fun y hy => by rw [List.take_zero] at hy; cases hy)
theorem fiOwn_f (w h : Int) (a u : List Int) (ha : a.length ≤ 4000000) (hu : u.length ≤ 4000000) : spec_fiOwn.f w h a u = some (w, h, a, u) := by
 unfold spec_fiOwn.f spec_l1Own.f
 simp only [Option.bind_some, List.nil_append, List.length_nil]
 rw [if_pos (by omega), if_pos (by omega), Option.bind_some, Option.bind_some]
theorem fiEdge_level {w h : Int} (g : GridOK w h) (a u : List Int) (x y : Int) : spec_fiEdge.f w h a u false x y = some (wrap64 (wrap64 (y * w) + x), (decide (0 ≤ x) && decide (x ≤ w - 1)) && (decide (0 ≤ y) && decide (y ≤ h))) := by
 have w1 := g.w1
 have w4 := g.w4
 have e0 : wrap64 (w - 1) = w - 1 := by unfold wrap64; omega
 unfold spec_fiEdge.f
 rw [if_neg (by decide), l1In_f, Option.bind_some, e0, l1In_f, Option.bind_some]
 cases (decide (0 ≤ x) && decide (x ≤ w - 1)) <;> simp
theorem fiEdge_upright {w h : Int} (g : GridOK w h) (a u : List Int) (x y : Int) : spec_fiEdge.f w h a u true x y = some (wrap64 (wrap64 (y * wrap64 (w + 1)) + x), (decide (0 ≤ x) && decide (x ≤ w)) && (decide (0 ≤ y) && decide (y ≤ h - 1))) := by
 have h1 := g.h1
 have h4 := g.h4
 have e0 : wrap64 (h - 1) = h - 1 := by unfold wrap64; omega
 unfold spec_fiEdge.f
 rw [if_pos rfl, l1In_f, Option.bind_some, e0, l1In_f, Option.bind_some]
 cases (decide (0 ≤ x) && decide (x ≤ w)) <;> simp
theorem rowA_mem {w h : Int} {M : Nat} (x : Int) : x ∈ rowA w h M ↔ ∃ i : Nat, (i : Int) = x ∧ i < (w * (h + 1)).toNat ∧ M.testBit i = true := setL_mem _ _ _
theorem rowU_mem {w h : Int} {M : Nat} (x : Int) : x ∈ rowU w h M ↔ ∃ i : Nat, (i : Int) = x ∧ i < (h * (w + 1)).toNat ∧ M.testBit ((w * (h + 1)).toNat + i) = true := setL_mem _ _ _
theorem or_bit (M e i : Nat) : (M ||| 2 ^ e).testBit i = (M.testBit i || decide (e = i)) := by rw [Nat.testBit_or, Nat.testBit_two_pow]
theorem or_have {M e : Nat} (h : M.testBit e = true) : M ||| 2 ^ e = M := by
 apply Nat.eq_of_testBit_eq
 intro i
 rw [or_bit]
 by_cases hi : e = i
 ·subst hi; simp [h]
 ·simp [hi]
theorem level_lt {w h x y : Int} (g : GridOK w h) (hx0 : 0 ≤ x) (hx1 : x ≤ w - 1) (hy0 : 0 ≤ y) (hy1 : y ≤ h) : 0 ≤ y * w + x ∧ y * w + x < w * (h + 1) ∧ wrap64 (wrap64 (y * w) + x) = y * w + x := by
 have w1 := g.w1
 have w4 := g.w4
 have h1 := g.h1
 have h4 := g.h4
 obtain ⟨p1, p2⟩ := prod_b (w := w) (y := y) w1 (by omega) hy0 (by omega)
 refine ⟨by omega, ?_, ?_⟩
 ·have c1 : y = 0 ∨ y = 1 ∨ y = 2 ∨ y = 3 ∨ y = 4 := by omega
  have c2 : h = 1 ∨ h = 2 ∨ h = 3 ∨ h = 4 := by omega
  rcases c2 with rfl | rfl | rfl | rfl <;> rcases c1 with rfl | rfl | rfl | rfl | rfl <;> omega
 ·have e1 : wrap64 (y * w) = y * w := by unfold wrap64; omega
  rw [e1]; unfold wrap64; omega
theorem upright_lt {w h x y : Int} (g : GridOK w h) (hx0 : 0 ≤ x) (hx1 : x ≤ w) (hy0 : 0 ≤ y) (hy1 : y ≤ h - 1) : 0 ≤ y * (w + 1) + x ∧ y * (w + 1) + x < h * (w + 1) ∧ wrap64 (wrap64 (y * wrap64 (w + 1)) + x) = y * (w + 1) + x := by
 have w1 := g.w1
 have w4 := g.w4
 have h1 := g.h1
 have h4 := g.h4
 obtain ⟨p1, p2⟩ := prod_b (w := w + 1) (y := y) (by omega) (by omega) hy0 (by omega)
 have e3 : wrap64 (w + 1) = w + 1 := by unfold wrap64; omega
 refine ⟨by omega, ?_, ?_⟩
 ·have c1 : y = 0 ∨ y = 1 ∨ y = 2 ∨ y = 3 := by omega
  have c2 : h = 1 ∨ h = 2 ∨ h = 3 ∨ h = 4 := by omega
  clear p1 p2 e3
  rcases c2 with rfl | rfl | rfl | rfl <;> rcases c1 with rfl | rfl | rfl | rfl <;> omega
 ·rw [e3]
  have e1 : wrap64 (y * (w + 1)) = y * (w + 1) := by unfold wrap64; omega
  rw [e1]; unfold wrap64; omega
theorem fiPut_level {w h : Int} (g : GridOK w h) {M : Nat} (hM : M < 2 ^ figN w h) (k : Nat) (hk : 1000000 < k) (x y : Int) (hx0 : 0 ≤ x) (hx1 : x ≤ w - 1) (hy0 : 0 ≤ y) (hy1 : y ≤ h) :
  spec_fiPut.f k w h (rowA w h M) (rowU w h M) false x y = some (w, h, rowA w h (M ||| 2 ^ (y * w + x).toNat), rowU w h (M ||| 2 ^ (y * w + x).toNat)) := by
 have lA := rowA_len g M
 have lU := rowU_len g M
 obtain ⟨l0, l1, l2⟩ := level_lt g hx0 hx1 hy0 hy1
 unfold spec_fiPut.f
 rw [fiOwn_f w h _ _ (by omega) (by omega), Option.bind_some, fiEdge_level g, Option.bind_some, fiHas_level g (figB_rows g M) (by omega) k hk x y hx0 (by omega) hy0 hy1, Option.bind_some, figMask_rows g hM, l2]
 obtain ⟨e, he⟩ := Int.eq_ofNat_of_zero_le l0
 rw [he, Int.toNat_natCast]
 have hU : rowU w h (M ||| 2 ^ e) = rowU w h M := setL_congr fun i hi => by rw [or_bit, decide_eq_false (by omega), Bool.or_false]
 cases hb : M.testBit e with
 | true => rw [if_pos rfl, or_have hb]
 | false =>
  obtain ⟨r, hr, hrp, hrm, -⟩ := l1Put_f (rowA w h M) (e : Int) (setL_pw _ _) (by omega) k (by omega)
  have hre : r = rowA w h (M ||| 2 ^ e) := rising_ext hrp (setL_pw _ _) fun z => by
   rw [hrm]
   constructor
   ·rintro (h1 | rfl)
    ·rw [rowA_mem] at h1 ⊢
     obtain ⟨i, hi, h2, h3⟩ := h1
     exact ⟨i, hi, h2, by rw [or_bit, h3]; rfl⟩
    ·rw [rowA_mem]
     exact ⟨e, rfl, by omega, by rw [or_bit]; simp⟩
   ·intro h1
    rw [rowA_mem] at h1
    obtain ⟨i, hi, h2, h3⟩ := h1
    rw [or_bit, Bool.or_eq_true, decide_eq_true_iff] at h3
    rcases h3 with h3 | h3
    ·exact .inl ((rowA_mem z).2 ⟨i, hi, h2, h3⟩)
    ·exact .inr (by rw [← hi, h3])
  rw [if_neg (by simp), if_neg (by simp), hr, Option.bind_some, hre, hU]
theorem fiPut_upright {w h : Int} (g : GridOK w h) {M : Nat} (hM : M < 2 ^ figN w h) (k : Nat) (hk : 1000000 < k) (x y : Int) (hx0 : 0 ≤ x) (hx1 : x ≤ w) (hy0 : 0 ≤ y) (hy1 : y ≤ h - 1) :
  spec_fiPut.f k w h (rowA w h M) (rowU w h M) true x y = some (w, h, rowA w h (M ||| 2 ^ ((w * (h + 1)).toNat + (y * (w + 1) + x).toNat)), rowU w h (M ||| 2 ^ ((w * (h + 1)).toNat + (y * (w + 1) + x).toNat))) := by
 have lA := rowA_len g M
 have lU := rowU_len g M
 obtain ⟨l0, l1, l2⟩ := upright_lt g hx0 hx1 hy0 hy1
 unfold spec_fiPut.f
 rw [fiOwn_f w h _ _ (by omega) (by omega), Option.bind_some, fiEdge_upright g, Option.bind_some, fiHas_upright g (figB_rows g M) (by omega) k hk x y hx0 hx1 hy0 (by omega), Option.bind_some, figMask_rows g hM, l2]
 obtain ⟨e, he⟩ := Int.eq_ofNat_of_zero_le l0
 rw [he, Int.toNat_natCast]
 have hA : rowA w h (M ||| 2 ^ ((w * (h + 1)).toNat + e)) = rowA w h M := setL_congr fun i hi => by rw [or_bit, decide_eq_false (by omega), Bool.or_false]
 cases hb : M.testBit ((w * (h + 1)).toNat + e) with
 | true => rw [if_pos rfl, or_have hb]
 | false =>
  obtain ⟨r, hr, hrp, hrm, -⟩ := l1Put_f (rowU w h M) (e : Int) (setL_pw _ _) (by omega) k (by omega)
  have hre : r = rowU w h (M ||| 2 ^ ((w * (h + 1)).toNat + e)) := rising_ext hrp (setL_pw _ _) fun z => by
   rw [hrm]
   constructor
   ·rintro (h1 | rfl)
    ·rw [rowU_mem] at h1 ⊢
     obtain ⟨i, hi, h2, h3⟩ := h1
     exact ⟨i, hi, h2, by rw [or_bit, h3]; rfl⟩
    ·rw [rowU_mem]
     exact ⟨e, rfl, by omega, by rw [or_bit]; simp⟩
   ·intro h1
    rw [rowU_mem] at h1
    obtain ⟨i, hi, h2, h3⟩ := h1
    rw [or_bit, Bool.or_eq_true, decide_eq_true_iff] at h3
    rcases h3 with h3 | h3
    ·exact .inl ((rowU_mem z).2 ⟨i, hi, h2, h3⟩)
    ·exact .inr (by rw [← hi]; omega)
  rw [if_neg (by simp), if_pos rfl, hr, Option.bind_some, hre, hA]
theorem fiThose_l0 (b l : List Int) (hb : b.length ≤ 4000000) (hL : l.length ≤ 4000000) (k0 : Nat) (hk0 : b.length < k0) : ∀ (d k i : Nat) (acc : List Int), l.length - i = d → i ≤ l.length → d + k0 < k → acc.length ≤ i →
  spec_fiThose.l0 k b false acc l (l.length : Int) (i : Int) = some (acc ++ (l.drop i).filter fun x => !decide (x ∈ b)) := by
 intro d
 induction d with
 | zero =>
  intro k i acc h1 h2 h3 h4
  obtain ⟨k, rfl⟩ : ∃ m, k = m + 1 := ⟨k - 1, by omega⟩
  simp only [spec_fiThose.l0]
  rw [if_neg (by omega), List.drop_of_length_le (by omega), List.filter_nil, List.append_nil]
 | succ d ih =>
  intro k i acc h1 h2 h3 h4
  obtain ⟨k, rfl⟩ : ∃ m, k = m + 1 := ⟨k - 1, by omega⟩
  have hi : i < l.length := by omega
  have e2 : wrap64 ((i : Int) + 1) = ((i + 1 : Nat) : Int) := by unfold wrap64; omega
  simp only [spec_fiThose.l0]
  rw [if_pos (by omega), if_pos (by omega), if_pos (by omega), rd_nat l i hi, l1Has_f b _ hb k (by omega), Option.bind_some, e2, List.drop_eq_getElem_cons hi]
  by_cases hm : l[i] ∈ b
  ·rw [decide_eq_true hm, if_neg (by simp), List.filter_cons_of_neg (by simp [hm])]
   exact ih k (i + 1) acc (by omega) (by omega) (by omega) (by omega)
  ·rw [decide_eq_false hm, if_pos (by simp), if_pos (by omega), ih k (i + 1) _ (by omega) (by omega) (by omega) (by simp; omega), List.filter_cons_of_pos (by simp [hm]), List.append_assoc]
   rfl
theorem fiThose_f (l b : List Int) (hb : b.length ≤ 1000000) (hL : l.length ≤ 1000000) (k : Nat) (hk : 3000000 < k) : spec_fiThose.f k l b false = some (l.filter fun x => !decide (x ∈ b)) := by
 unfold spec_fiThose.f
 have := fiThose_l0 b l (by omega) (by omega) (b.length + 1) (by omega) l.length k 0 [] (by omega) (by omega) (by omega) (Nat.le_refl _)
 rw [List.drop_zero, List.nil_append] at this
 exact this
theorem fiLess_f {w h w2 h2 : Int} (g : GridOK w h) {M N : Nat} (k : Nat) (hk : 3000000 < k) : spec_fiLess.f k w h (rowA w h M) (rowU w h M) w2 h2 (rowA w h N) (rowU w h N) = some (w, h, rowA w h (diffN M N), rowU w h (diffN M N)) := by
 have lA := rowA_len g M
 have lU := rowU_len g M
 have lA2 := rowA_len g N
 have lU2 := rowU_len g N
 unfold spec_fiLess.f
 rw [fiThose_f _ _ (by omega) (by omega) k hk, Option.bind_some, fiThose_f _ _ (by omega) (by omega) k hk, Option.bind_some]
 have eA : (rowA w h M).filter (fun x => !decide (x ∈ rowA w h N)) = rowA w h (diffN M N) := by
  show (setL _ _).filter _ = setL _ _
  rw [setL_filter]
  refine setL_congr fun i hi => ?_
  rw [diffN_test]
  congr 2
  rw [Bool.eq_iff_iff, decide_eq_true_iff]
  exact rowA_in hi
 have eU : (rowU w h M).filter (fun x => !decide (x ∈ rowU w h N)) = rowU w h (diffN M N) := by
  show (setL _ _).filter _ = setL _ _
  rw [setL_filter]
  refine setL_congr fun i hi => ?_
  rw [diffN_test]
  congr 2
  rw [Bool.eq_iff_iff, decide_eq_true_iff]
  exact rowU_in hi
 rw [eA, eU]


def BA (l : List UInt8) : ByteArray := ⟨l.toArray⟩
theorem BA_add (l : List UInt8) (c : UInt8) : BA l ++ (⟨#[c]⟩ : ByteArray) = BA (l ++ [c]) := by
  apply ByteArray.ext
  rw [ByteArray.data_append]
  unfold BA
  apply Array.ext'
  simp
theorem BA_size (l : List UInt8) : (BA l).size = l.length := by simp [BA, ByteArray.size]
theorem join_snoc (xs : List (List UInt8)) (x sep : List UInt8) (h : xs ≠ []) : Lib.join (xs ++ [x]) sep = Lib.join xs sep ++ sep ++ x := by
  cases xs with
  | nil => exact absurd rfl h
  | cons a r =>
    rw [List.cons_append, Lib.join_cons, Lib.join_cons]
    unfold Lib.joinTail
    rw [List.map_append, List.flatten_append]
    simp
def rowL (c : UInt8) (p : Nat → Bool) (n : Nat) : List UInt8 := (List.range n).map fun x => if p x = true then c else 46
theorem rowL_succ (c : UInt8) (p : Nat → Bool) (n : Nat) : rowL c p (n + 1) = rowL c p n ++ [if p n = true then c else 46] := by unfold rowL; rw [List.range_succ, List.map_append]; rfl
theorem rowL_len (c : UInt8) (p : Nat → Bool) (n : Nat) : (rowL c p n).length = n := by unfold rowL; rw [List.length_map, List.length_range]
def levP (w m y x : Nat) : Bool := m.testBit (y * w + x)
def uprP (w h m y x : Nat) : Bool := m.testBit (w * (h + 1) + (y * (w + 1) + x))
def textRows (w h m : Nat) : Nat → List (List UInt8)
  | 0 => []
  | y + 1 => if y < h then (textRows w h m y ++ [rowL 45 (levP w m y) w]) ++ [rowL 124 (uprP w h m y) (w + 1)] else textRows w h m y ++ [rowL 45 (levP w m y) w]
theorem textRows_len (w h m : Nat) : ∀ y, y ≤ h → (textRows w h m y).length = 2 * y
  | 0, _ => rfl
  | y + 1, hy => by
    have := textRows_len w h m y (by omega)
    unfold textRows
    rw [if_pos (by omega), List.length_append, List.length_append, List.length_singleton, List.length_singleton]
    omega
theorem textRows_size (w h m : Nat) : ∀ y, ∀ x ∈ textRows w h m y, x.length ≤ w + 1
  | 0, x, h => by cases h
  | y + 1, x, hx => by
    have ih := textRows_size w h m y
    have e1 := rowL_len 45 (levP w m y) w
    have e2 := rowL_len 124 (uprP w h m y) (w + 1)
    unfold textRows at hx
    split at hx
    · rcases List.mem_append.1 hx with hx | hx
      · rcases List.mem_append.1 hx with hx | hx
        · exact ih x hx
        · rw [List.mem_singleton.1 hx]; omega
      · rw [List.mem_singleton.1 hx]; omega
    · rcases List.mem_append.1 hx with hx | hx
      · exact ih x hx
      · rw [List.mem_singleton.1 hx]; omega
def figText (w h m : Nat) : ByteArray := BA (Lib.join (textRows w h m (h + 1)) [47])
theorem and_edgeB {M e : Nat} (hM : M < 2 ^ 60) (he : e < 60) : (Go.bits .and .u64 (M : Int) ((2 ^ e : Nat) : Int) != 0) = M.testBit e := by
  have h := and_two e M
  rw [Nat.and_comm] at h
  rw [and_u64 _ _ hM (Nat.pow_lt_pow_right (by decide) he), h]
  have hp := Nat.two_pow_pos e
  cases M.testBit e with
  | false => rfl
  | true =>
    rw [if_pos rfl, bne_iff_ne]
    omega
theorem join_len (sep : List UInt8) (m : Nat) : ∀ (xs : List (List UInt8)), (∀ x ∈ xs, x.length ≤ m) → (Lib.join xs sep).length ≤ xs.length * (m + sep.length) := by
  have tail : ∀ (r : List (List UInt8)), (∀ x ∈ r, x.length ≤ m) → (Lib.joinTail sep r).length ≤ r.length * (m + sep.length) := by
    intro r
    induction r with
    | nil => intro _; exact Nat.zero_le _
    | cons x r ih =>
      intro h
      have h1 := h x List.mem_cons_self
      have h2 := ih (fun y hy => h y (List.mem_cons_of_mem _ hy))
      unfold Lib.joinTail at h2 ⊢
      rw [List.map_cons, List.flatten_cons, List.length_append, List.length_append, List.length_cons, Nat.succ_mul]
      omega
  intro xs h
  cases xs with
  | nil => exact Nat.zero_le _
  | cons x r =>
    rw [Lib.join_cons, List.length_append, List.length_cons, Nat.succ_mul]
    have h1 := h x List.mem_cons_self
    have h2 := tail r (fun y hy => h y (List.mem_cons_of_mem _ hy))
    omega

end Go.Proofs.YteaglkpplgbpaaaDoor.P
namespace Go.Proofs.YteaglkpplgbpaaaDoor.P
open Go.RowKit Go.Proofs.YteaglkpplgbpaaaDoorW.PrintWords Go.Proofs.YteaglkpplgbpaaaDoorW.PrintLast Go.Proofs.YteaglkpplgbpaaaDoorW.PrintMore
attribute [local go_sem] max2_int min2_int max_two min_two max_three min_three max_four min_four   -- for this text's walks alone
set_option linter.unusedVariables false
set_option linter.unusedSimpArgs false

section
variable {w h : Nat} {a u : List Int}
theorem ft_l1 (g : GridOK (w : Int) (h : Int)) (hf : figB (w : Int) (h : Int) a u = true) (ha : a.length ≤ 1000000) (hu : u.length ≤ 1000000) (T : List UInt8) (hT : T.length ≤ 1000) (y : Nat) (hy : y ≤ h) : ∀ (d k x : Nat), w - x = d → x ≤ w → d + 1000001 < k →
  ∃ k', k ≤ k' + (d + 1) ∧ spec_fiText.l1 k (BA (T ++ rowL 45 (levP w (figMask (w : Int) (h : Int) a u) y) x)) (y : Int) (x : Int) (w : Int) (h : Int) a u = if y = h then some (BA (T ++ rowL 45 (levP w (figMask (w : Int) (h : Int) a u) y) w)) else spec_fiText.l2 k' (BA (T ++ rowL 45 (levP w (figMask (w : Int) (h : Int) a u) y) w ++ [47])) (y : Int) 0 (w : Int) (h : Int) a u := by
 have w4 : w ≤ 4 := by have := g.w4; omega
 intro d
 induction d with
 | zero =>
  intro k x h1 h2 h3
  obtain ⟨k, rfl⟩ : ∃ q, k = q + 1 := ⟨k - 1, by omega⟩
  have : x = w := by omega
  subst this
  refine ⟨k, by omega, ?_⟩
  have hs : (BA (T ++ rowL 45 (levP x (figMask (x : Int) (h : Int) a u) y) x)).size + 1 ≤ 9223372036854775807 := by rw [BA_size, List.length_append, rowL_len]; omega
  rw [spec_fiText.l1, if_neg (Int.lt_irrefl _)]
  by_cases hyh : y = h
  ·rw [if_pos (by omega), if_pos hyh]
  ·rw [if_neg (by omega), if_neg hyh, if_pos hs, BA_add]
 | succ d ih =>
  intro k x h1 h2 h3
  obtain ⟨k, rfl⟩ : ∃ q, k = q + 1 := ⟨k - 1, by omega⟩
  obtain ⟨k', p1, p2⟩ := ih k (x + 1) (by omega) (by omega) (by omega)
  have hk0 : 1000000 < k := by omega
  have hkk : k + 1 ≤ k' + (d + 1 + 1) := by omega
  have hx9 : x < 10 := by omega
  have hT9 : (T.length + x) + 1 ≤ 9223372036854775807 := by omega
  have hxw : (x : Int) < (w : Int) := Int.ofNat_lt.2 (by omega)
  have hyh : (y : Int) ≤ (h : Int) := Int.ofNat_le.2 hy
  clear h1 h2 h3 p1 ih
  have hfi := fiHas_level g hf ha k hk0 (x : Int) (y : Int) (Int.natCast_nonneg _) hxw (Int.natCast_nonneg _) hyh
  rw [← Int.natCast_mul, ← Int.natCast_add, Int.toNat_natCast] at hfi
  have e1 : wrap64 ((x : Int) + 1) = ((x + 1 : Nat) : Int) := by clear hfi p2; unfold wrap64; omega
  refine ⟨k', hkk, ?_⟩
  have hs : (BA (T ++ rowL 45 (levP w (figMask (w : Int) (h : Int) a u) y) x)).size + 1 ≤ 9223372036854775807 := by rw [BA_size, List.length_append, rowL_len]; exact hT9
  rw [spec_fiText.l1, if_pos hxw, hfi, Option.bind_some, e1, ← p2, rowL_succ]
  by_cases hb : (figMask (w : Int) (h : Int) a u).testBit (y * w + x) = true
  ·have hb2 : levP w (figMask (w : Int) (h : Int) a u) y x = true := hb
   rw [if_pos hb, if_pos hs, if_pos hb2, BA_add, List.append_assoc]
  ·have hb2 : ¬ levP w (figMask (w : Int) (h : Int) a u) y x = true := hb
   rw [if_neg hb, if_pos hs, if_neg hb2, BA_add, List.append_assoc]
theorem ft_l2 (g : GridOK (w : Int) (h : Int)) (hf : figB (w : Int) (h : Int) a u = true) (ha : a.length ≤ 1000000) (hu : u.length ≤ 1000000) (T : List UInt8) (hT : T.length ≤ 1000) (y : Nat) (hy : y < h) : ∀ (d k x : Nat), w + 1 - x = d → x ≤ w + 1 → d + 1000001 < k →
  ∃ k', k ≤ k' + (d + 1) ∧ spec_fiText.l2 k (BA (T ++ rowL 124 (uprP w h (figMask (w : Int) (h : Int) a u) y) x)) (y : Int) (x : Int) (w : Int) (h : Int) a u = spec_fiText.l0 k' (BA (T ++ rowL 124 (uprP w h (figMask (w : Int) (h : Int) a u) y) (w + 1))) ((y + 1 : Nat) : Int) (w : Int) (h : Int) a u := by
 have w4 : w ≤ 4 := by have := g.w4; omega
 have h4 : h ≤ 4 := by have := g.h4; omega
 intro d
 induction d with
 | zero =>
  intro k x h1 h2 h3
  obtain ⟨k, rfl⟩ : ∃ q, k = q + 1 := ⟨k - 1, by omega⟩
  have : x = w + 1 := by omega
  subst this
  have e1 : wrap64 ((y : Int) + 1) = ((y + 1 : Nat) : Int) := by unfold wrap64; omega
  refine ⟨k, by omega, ?_⟩
  rw [spec_fiText.l2, if_neg (by omega), e1]
 | succ d ih =>
  intro k x h1 h2 h3
  obtain ⟨k, rfl⟩ : ∃ q, k = q + 1 := ⟨k - 1, by omega⟩
  obtain ⟨k', p1, p2⟩ := ih k (x + 1) (by omega) (by omega) (by omega)
  have hk0 : 1000000 < k := by omega
  have hkk : k + 1 ≤ k' + (d + 1 + 1) := by omega
  have hx9 : x < 10 := by omega
  have hT9 : (T.length + x) + 1 ≤ 9223372036854775807 := by omega
  have hxw : (x : Int) ≤ (w : Int) := Int.ofNat_le.2 (by omega)
  have hyh : (y : Int) < (h : Int) := Int.ofNat_lt.2 hy
  clear h1 h2 h3 p1 ih
  have hfi := fiHas_upright g hf hu k hk0 (x : Int) (y : Int) (Int.natCast_nonneg _) hxw (Int.natCast_nonneg _) hyh
  rw [show (w : Int) * ((h : Int) + 1) = ((w * (h + 1) : Nat) : Int) by push_cast; rfl, show (y : Int) * ((w : Int) + 1) + (x : Int) = ((y * (w + 1) + x : Nat) : Int) by push_cast; rfl, Int.toNat_natCast, Int.toNat_natCast] at hfi
  have e1 : wrap64 ((x : Int) + 1) = ((x + 1 : Nat) : Int) := by clear hfi p2; unfold wrap64; omega
  refine ⟨k', hkk, ?_⟩
  have hs : (BA (T ++ rowL 124 (uprP w h (figMask (w : Int) (h : Int) a u) y) x)).size + 1 ≤ 9223372036854775807 := by rw [BA_size, List.length_append, rowL_len]; exact hT9
  rw [spec_fiText.l2, if_pos hxw, hfi, Option.bind_some, e1, ← p2, rowL_succ]
  by_cases hb : (figMask (w : Int) (h : Int) a u).testBit (w * (h + 1) + (y * (w + 1) + x)) = true
  ·have hb2 : uprP w h (figMask (w : Int) (h : Int) a u) y x = true := hb
   rw [if_pos hb, if_pos hs, if_pos hb2, BA_add, List.append_assoc]
  ·have hb2 : ¬ uprP w h (figMask (w : Int) (h : Int) a u) y x = true := hb
   rw [if_neg hb, if_pos hs, if_neg hb2, BA_add, List.append_assoc]
theorem ft_step (g : GridOK (w : Int) (h : Int)) (hf : figB (w : Int) (h : Int) a u = true) (ha : a.length ≤ 1000000) (hu : u.length ≤ 1000000) (k y : Nat) (hy : y ≤ h) (hk : 40 * (h - y) + 1000040 < k) (R : ByteArray)
  (hR : R = BA (Lib.join (textRows w h (figMask (w : Int) (h : Int) a u) (h + 1)) [47]))
  (next : y < h → ∀ k', 40 * (h - (y + 1)) + 1000040 < k' → spec_fiText.l0 k' (BA (Lib.join (textRows w h (figMask (w : Int) (h : Int) a u) (y + 1)) [47])) ((y + 1 : Nat) : Int) (w : Int) (h : Int) a u = some R) :
  spec_fiText.l0 k (BA (Lib.join (textRows w h (figMask (w : Int) (h : Int) a u) y) [47])) (y : Int) (w : Int) (h : Int) a u = some R := by
 have w4 : w ≤ 4 := by have := g.w4; omega
 have h4 : h ≤ 4 := by have := g.h4; omega
 have h1 : 1 ≤ h := by have := g.h1; omega
 obtain ⟨k, rfl⟩ : ∃ q, k = q + 2 := ⟨k - 2, by omega⟩
 have hrl := textRows_len w h (figMask (w : Int) (h : Int) a u) y hy
 have hjl := join_len [47] 5 (textRows w h (figMask (w : Int) (h : Int) a u) y) (fun x hx => Nat.le_trans (textRows_size w h (figMask (w : Int) (h : Int) a u) y x hx) (by omega))
 rw [hrl] at hjl
 have hne : 0 < y → textRows w h (figMask (w : Int) (h : Int) a u) y ≠ [] := fun hy0 e => by rw [e] at hrl; simp at hrl; omega
 -- the text ahead of the row
 obtain ⟨T, hT1, hT2, hT3⟩ : ∃ T : List UInt8, T.length ≤ 1000 ∧ (∀ x : List UInt8, Lib.join (textRows w h (figMask (w : Int) (h : Int) a u) y ++ [x]) [47] = T ++ x) ∧ spec_fiText.l0 (k + 2) (BA (Lib.join (textRows w h (figMask (w : Int) (h : Int) a u) y) [47])) (y : Int) (w : Int) (h : Int) a u = spec_fiText.l1 k (BA T) (y : Int) 0 (w : Int) (h : Int) a u := by
  have hyh : (y : Int) ≤ (h : Int) := Int.ofNat_le.2 hy
  by_cases hy0 : 0 < y
  ·refine ⟨Lib.join (textRows w h (figMask (w : Int) (h : Int) a u) y) [47] ++ [47], ?_, fun x => join_snoc _ x [47] (hne hy0), ?_⟩
   ·rw [List.length_append, List.length_singleton]
    simp only [List.length_singleton] at hjl
    omega
   ·have hy2 : (y : Int) > 0 := by omega
    have hs : (BA (Lib.join (textRows w h (figMask (w : Int) (h : Int) a u) y) [47])).size + 1 ≤ 9223372036854775807 := by
     rw [BA_size]
     simp only [List.length_singleton] at hjl
     omega
    rw [spec_fiText.l0, if_pos hyh, if_pos hy2, if_pos hs, spec_fiText.j1, BA_add]
  ·obtain rfl : y = 0 := by omega
   refine ⟨[], Nat.zero_le _, fun x => ?_, ?_⟩
   ·show Lib.join [x] [47] = x
    exact Lib.join_one x [47]
   ·rw [spec_fiText.l0, if_pos hyh, if_neg (by decide), spec_fiText.j1]
    rfl
 rw [hT3]
 obtain ⟨k1, p1, p2⟩ := ft_l1 g hf ha hu T hT1 y hy w k 0 (Nat.sub_zero _) (Nat.zero_le _) (by omega)
 rw [show rowL 45 (levP w (figMask (w : Int) (h : Int) a u) y) 0 = [] from rfl, List.append_nil] at p2
 refine p2.trans ?_
 by_cases hyh : y = h
 ·rw [if_pos hyh, hR]
  subst hyh
  rw [show textRows w y (figMask (w : Int) (y : Int) a u) (y + 1) = textRows w y (figMask (w : Int) (y : Int) a u) y ++ [rowL 45 (levP w (figMask (w : Int) (y : Int) a u) y) w] by rw [textRows, if_neg (Nat.lt_irrefl _)], hT2]
 ·rw [if_neg hyh]
  have hlt : y < h := by omega
  have hL : (rowL 45 (levP w (figMask (w : Int) (h : Int) a u) y) w).length = w := rowL_len _ _ _
  simp only [List.length_singleton] at hjl
  have hT1' : T.length ≤ 900 := by
   have e := hT2 []
   rw [List.append_nil] at e
   have hq := join_len [47] 5 (textRows w h (figMask (w : Int) (h : Int) a u) y ++ [[]]) (fun x hx => by
    rcases List.mem_append.1 hx with hx | hx
    ·exact Nat.le_trans (textRows_size w h (figMask (w : Int) (h : Int) a u) y x hx) (by omega)
    ·rw [List.mem_singleton.1 hx]; exact Nat.zero_le _)
   rw [e, List.length_append, hrl, List.length_singleton, List.length_singleton] at hq
   omega
  obtain ⟨k2, q1, q2⟩ := ft_l2 g hf ha hu (T ++ rowL 45 (levP w (figMask (w : Int) (h : Int) a u) y) w ++ [47]) (by rw [List.length_append, List.length_append, hL, List.length_singleton]; omega) y hlt (w + 1) k1 0 (Nat.sub_zero _) (Nat.zero_le _) (by omega)
  rw [show rowL 124 (uprP w h (figMask (w : Int) (h : Int) a u) y) 0 = [] from rfl, List.append_nil] at q2
  refine q2.trans ?_
  have n := next hlt k2 (by omega)
  rw [show textRows w h (figMask (w : Int) (h : Int) a u) (y + 1) = (textRows w h (figMask (w : Int) (h : Int) a u) y ++ [rowL 45 (levP w (figMask (w : Int) (h : Int) a u) y) w]) ++ [rowL 124 (uprP w h (figMask (w : Int) (h : Int) a u) y) (w + 1)] by rw [textRows, if_pos hlt], join_snoc _ _ _ (by simp), hT2] at n
  exact n
theorem ft_l0 (g : GridOK (w : Int) (h : Int)) (hf : figB (w : Int) (h : Int) a u = true) (ha : a.length ≤ 1000000) (hu : u.length ≤ 1000000) : ∀ (d k y : Nat), h - y = d → y ≤ h → 40 * d + 1000040 < k →
  spec_fiText.l0 k (BA (Lib.join (textRows w h (figMask (w : Int) (h : Int) a u) y) [47])) (y : Int) (w : Int) (h : Int) a u = some (BA (Lib.join (textRows w h (figMask (w : Int) (h : Int) a u) (h + 1)) [47])) := by
 intro d
 induction d with
 | zero =>
  intro k y h1 h2 h3
  exact ft_step g hf ha hu k y h2 (by omega) _ rfl (fun hy => absurd hy (by omega))
 | succ d ih =>
  intro k y h1 h2 h3
  exact ft_step g hf ha hu k y h2 (by omega) _ rfl (fun hy k' hk' => ih k' (y + 1) (by omega) (by omega) (by omega))
end
theorem fiText_f {w h : Nat} {a u : List Int} (hf : figB (w : Int) (h : Int) a u = true) (ha : a.length ≤ 1000000) (hu : u.length ≤ 1000000) (k : Nat) (hk : 1001000 < k) : spec_fiText.f k (w : Int) (h : Int) a u = some (figText w h (figMask (w : Int) (h : Int) a u)) := by
 have g := gridOK_of hf
 have h4 : h ≤ 4 := by have := g.h4; omega
 exact ft_l0 g hf ha hu h k 0 (Nat.sub_zero _) (Nat.zero_le _) (by omega)

end Go.Proofs.YteaglkpplgbpaaaDoor.P
namespace Go.Proofs.YteaglkpplgbpaaaDoor.P
open Go.RowKit Go.Proofs.YteaglkpplgbpaaaDoorW.PrintWords Go.Proofs.YteaglkpplgbpaaaDoorW.PrintLast Go.Proofs.YteaglkpplgbpaaaDoorW.PrintMore
attribute [local go_sem] max2_int min2_int max_two min_two max_three min_three max_four min_four   -- for this text's walks alone
set_option linter.unusedVariables false
set_option linter.unusedSimpArgs false

theorem join_inj {sep : List UInt8} : ∀ {A B : List (List UInt8)}, A.map List.length = B.map List.length → Lib.join A sep = Lib.join B sep → A = B := by
  have tail : ∀ {A B : List (List UInt8)}, A.map List.length = B.map List.length → Lib.joinTail sep A = Lib.joinTail sep B → A = B := by
    intro A
    induction A with
    | nil =>
      intro B h _
      cases B with
      | nil => rfl
      | cons b t => simp at h
    | cons a r ih =>
      intro B h hj
      cases B with
      | nil => simp at h
      | cons b t =>
        rw [List.map_cons, List.map_cons] at h
        injection h with h1 h2
        unfold Lib.joinTail at hj
        rw [List.map_cons, List.map_cons, List.flatten_cons, List.flatten_cons] at hj
        obtain ⟨e1, e2⟩ := List.append_inj hj (by rw [List.length_append, List.length_append, h1])
        rw [List.append_cancel_left e1, ih h2 e2]
  intro A B h hj
  cases A with
  | nil =>
    cases B with
    | nil => rfl
    | cons b t => simp at h
  | cons a r =>
    cases B with
    | nil => simp at h
    | cons b t =>
      rw [List.map_cons, List.map_cons] at h
      injection h with h1 h2
      rw [Lib.join_cons, Lib.join_cons] at hj
      obtain ⟨e1, e2⟩ := List.append_inj hj h1
      rw [e1, tail h2 e2]


def stepB (w h : Int) (m : Nat) (x y d : Int) : Bool := match btwE w h x y d with | none => false | some e => m.testBit e
theorem liNext_f {w h : Int} {a u : List Int} (g : GridOK w h) (hf : figB w h a u = true) (ha : a.length ≤ 1000000) (hu : u.length ≤ 1000000) (k : Nat) (hk : 1000000 < k) (x y : Int) (hc : inC w h x y) :
    spec_liNext.f k w h a u x y 0 = some (x, y - 1, stepB w h (figMask w h a u) x y 110) ∧ spec_liNext.f k w h a u x y 1 = some (x + 1, y, stepB w h (figMask w h a u) x y 101) ∧
    spec_liNext.f k w h a u x y 2 = some (x, y + 1, stepB w h (figMask w h a u) x y 115) ∧ spec_liNext.f k w h a u x y 3 = some (x - 1, y, stepB w h (figMask w h a u) x y 119) := by
  obtain ⟨⟨hx0, hx1⟩, hy0, hy1⟩ := id hc
  have w1 := g.w1
  have w4 := g.w4
  have h1 := g.h1
  have h4 := g.h4
  have wy1 : wrap64 (y - 1) = y - 1 := by unfold wrap64; omega
  have wy2 : wrap64 (y + 1) = y + 1 := by unfold wrap64; omega
  have wx1 : wrap64 (x - 1) = x - 1 := by unfold wrap64; omega
  have wx2 : wrap64 (x + 1) = x + 1 := by unfold wrap64; omega
  refine ⟨?_, ?_, ?_, ?_⟩
  · unfold spec_liNext.f stepB btwE
    rw [if_pos rfl, wy1, if_pos hc, if_pos rfl]
    by_cases hh : 0 < y
    · rw [if_pos (show y > 0 from hh), if_pos (show 1 ≤ y by omega), fiHas_upright g hf hu k hk x (y - 1) hx0 hx1 (by omega) (by omega), Option.bind_some]
    · rw [if_neg (show ¬ y > 0 from hh), if_neg (show ¬ 1 ≤ y by omega)]
  · unfold spec_liNext.f stepB btwE
    rw [if_neg (show ¬ (1 : Int) = 0 by decide), if_pos rfl, wx2, if_pos hc, if_neg (show ¬ (101 : Int) = 110 by decide), if_pos rfl]
    by_cases hh : x < w
    · rw [if_pos hh, if_pos hh, fiHas_level g hf ha k hk x y hx0 hh hy0 hy1, Option.bind_some]
    · rw [if_neg hh, if_neg hh]
  · unfold spec_liNext.f stepB btwE
    rw [if_neg (show ¬ (2 : Int) = 0 by decide), if_neg (show ¬ (2 : Int) = 1 by decide), if_pos rfl, wy2, if_pos hc, if_neg (show ¬ (115 : Int) = 110 by decide), if_neg (show ¬ (115 : Int) = 101 by decide), if_pos rfl]
    by_cases hh : y < h
    · rw [if_pos hh, if_pos hh, fiHas_upright g hf hu k hk x y hx0 hx1 hy0 hh, Option.bind_some]
    · rw [if_neg hh, if_neg hh]
  · unfold spec_liNext.f stepB btwE
    rw [if_neg (show ¬ (3 : Int) = 0 by decide), if_neg (show ¬ (3 : Int) = 1 by decide), if_neg (show ¬ (3 : Int) = 2 by decide), wx1, if_pos hc, if_neg (show ¬ (119 : Int) = 110 by decide), if_neg (show ¬ (119 : Int) = 101 by decide), if_neg (show ¬ (119 : Int) = 115 by decide)]
    by_cases hh : 0 < x
    · rw [if_pos (show x > 0 from hh), if_pos (show 1 ≤ x by omega), fiHas_level g hf ha k hk (x - 1) y (by omega) (by omega) hy0 hy1, Option.bind_some]
    · rw [if_neg (show ¬ x > 0 from hh), if_neg (show ¬ 1 ≤ x by omega)]


theorem fiUpTo_l0 (n : Nat) (hn : n ≤ 1000000) : ∀ (d k i : Nat), n - i = d → i ≤ n → d < k → spec_fiUpTo.l0 k (n : Int) (setL i fun _ => true) (i : Int) = some (setL n fun _ => true) := by
  intro d
  induction d with
  | zero =>
    intro k i h1 h2 h3
    obtain ⟨k, rfl⟩ : ∃ m, k = m + 1 := ⟨k - 1, by omega⟩
    obtain rfl : i = n := by omega
    simp only [spec_fiUpTo.l0]
    rw [if_neg (by omega)]
  | succ d ih =>
    intro k i h1 h2 h3
    obtain ⟨k, rfl⟩ : ∃ m, k = m + 1 := ⟨k - 1, by omega⟩
    have e2 : wrap64 ((i : Int) + 1) = ((i + 1 : Nat) : Int) := by unfold wrap64; omega
    have hl := setL_len i fun _ => true
    have hs := setL_succ i fun _ => true
    rw [if_pos rfl] at hs
    simp only [spec_fiUpTo.l0]
    rw [if_pos (by omega), if_pos (by omega), e2, ← hs]
    exact ih k (i + 1) (by omega) (by omega) (by omega)
theorem fiUpTo_f (n : Nat) (hn : n ≤ 1000000) (k : Nat) (hk : n < k) : spec_fiUpTo.f k (n : Int) = some (setL n fun _ => true) := by
  unfold spec_fiUpTo.f
  exact fiUpTo_l0 n hn n k 0 (by omega) (by omega) hk
theorem fiFull_f {w h : Int} (g : GridOK w h) (k : Nat) (hk : 1000000 < k) : spec_fiFull.f k w h = some (w, h, rowA w h (2 ^ figN w h - 1), rowU w h (2 ^ figN w h - 1)) := by
  obtain ⟨c1, c2, c3, c4⟩ := area_bounds g.w1 g.w4 g.h1 g.h4
  have w1 := g.w1
  have w4 := g.w4
  have h1 := g.h1
  have h4 := g.h4
  have e1 : wrap64 (h + 1) = h + 1 := by unfold wrap64; omega
  have e2 : wrap64 (w + 1) = w + 1 := by unfold wrap64; omega
  have e3 : wrap64 (w * (h + 1)) = (((w * (h + 1)).toNat : Nat) : Int) := by unfold wrap64; omega
  have e4 : wrap64 ((w + 1) * h) = (((h * (w + 1)).toNat : Nat) : Int) := by rw [Int.mul_comm]; unfold wrap64; omega
  unfold spec_fiFull.f
  rw [e1, e2, e3, e4, fiUpTo_f _ (by omega) k (by omega), Option.bind_some, fiUpTo_f _ (by omega) k (by omega), Option.bind_some]
  have eA : setL (w * (h + 1)).toNat (fun _ => true) = rowA w h (2 ^ figN w h - 1) := setL_congr fun i hi => by
    rw [Nat.testBit_two_pow_sub_one]
    exact (decide_eq_true (by unfold figN; omega)).symm
  have eU : setL (h * (w + 1)).toNat (fun _ => true) = rowU w h (2 ^ figN w h - 1) := setL_congr fun i hi => by
    rw [Nat.testBit_two_pow_sub_one]
    exact (decide_eq_true (by unfold figN; omega)).symm
  rw [eA, eU]
theorem fiMissing_f {w h : Int} (g : GridOK w h) {M : Nat} (k : Nat) (hk : 3000000 < k) : spec_fiMissing.f k w h (rowA w h M) (rowU w h M) = some (w, h, rowA w h (diffN (2 ^ figN w h - 1) M), rowU w h (diffN (2 ^ figN w h - 1) M)) := by
  unfold spec_fiMissing.f
  rw [fiFull_f g k (by omega), Option.bind_some, fiLess_f g k hk, Option.bind_some]


theorem grid_cases {w h : Int} (g : GridOK w h) : (w = 1 ∨ w = 2 ∨ w = 3 ∨ w = 4) ∧ (h = 1 ∨ h = 2 ∨ h = 3 ∨ h = 4) := by
  have w1 := g.w1
  have w4 := g.w4
  have h1 := g.h1
  have h4 := g.h4
  constructor <;> omega

def nxC (c : S32) (d : Int) : S32 := if d = 110 then ⟨c.f0, c.f1 - 1⟩ else if d = 101 then ⟨c.f0 + 1, c.f1⟩ else if d = 115 then ⟨c.f0, c.f1 + 1⟩ else ⟨c.f0 - 1, c.f1⟩
def four4 (d : Int) : Prop := d = 110 ∨ d = 101 ∨ d = 115 ∨ d = 119
def edC (w h : Int) (c : S32) (d : Int) : Option Nat := btwE w h c.f0 c.f1 d
inductive Reach (w h : Int) (m : Nat) (c : S32) : S32 → Prop
  | refl : Reach w h m c c
  | step {p : S32} {d : Int} {e : Nat} : Reach w h m c p → four4 d → edC w h p d = some e → m.testBit e = true → Reach w h m c (nxC p d)
theorem grid_in {w h : Int} {c : S32} {d : Int} {e : Nat} (he : edC w h c d = some e) : inC w h c.f0 c.f1 := by
  unfold edC btwE at he
  split at he
  · assumption
  · cases he
theorem next_in {w h : Int} {c : S32} {d : Int} {e : Nat} (hd : four4 d) (he : edC w h c d = some e) : inC w h (nxC c d).f0 (nxC c d).f1 := by
  have hc := grid_in he
  unfold edC btwE at he
  rw [if_pos hc] at he
  obtain ⟨⟨h1, h2⟩, h3, h4⟩ := hc
  unfold nxC inC
  rcases hd with rfl | rfl | rfl | rfl
  · simp only [if_pos] at he ⊢
    split at he
    · (try simp only); omega
    · cases he
  · simp only [if_pos, show ¬ (101 : Int) = 110 by decide, if_neg, if_false] at he ⊢
    split at he
    · (try simp only); omega
    · cases he
  · simp only [if_pos, show ¬ (115 : Int) = 110 by decide, show ¬ (115 : Int) = 101 by decide, if_false] at he ⊢
    split at he
    · (try simp only); omega
    · cases he
  · simp only [show ¬ (119 : Int) = 110 by decide, show ¬ (119 : Int) = 101 by decide, show ¬ (119 : Int) = 115 by decide, if_false] at he ⊢
    split at he
    · (try simp only); omega
    · cases he
theorem ed_place {w h : Int} {c : S32} {d : Int} {e : Nat} (hd : four4 d) (he : edC w h c d = some e) :
    (∃ x y : Int, 0 ≤ x ∧ x < w ∧ 0 ≤ y ∧ y ≤ h ∧ e = (y * w + x).toNat ∧ ((c = ⟨x, y⟩ ∧ d = 101) ∨ (c = ⟨x + 1, y⟩ ∧ d = 119))) ∨
    (∃ x y : Int, 0 ≤ x ∧ x ≤ w ∧ 0 ≤ y ∧ y < h ∧ e = (w * (h + 1)).toNat + (y * (w + 1) + x).toNat ∧ ((c = ⟨x, y⟩ ∧ d = 115) ∨ (c = ⟨x, y + 1⟩ ∧ d = 110))) := by
  have hc := grid_in he
  unfold edC btwE at he
  rw [if_pos hc] at he
  obtain ⟨⟨h1, h2⟩, h3, h4⟩ := hc
  obtain ⟨x, y⟩ := c
  simp only at *
  rcases hd with rfl | rfl | rfl | rfl
  · simp only [if_pos] at he
    split at he
    · injection he with he
      exact .inr ⟨x, y - 1, h1, h2, by omega, by omega, he.symm, .inr ⟨by rw [show y - 1 + 1 = y by omega], rfl⟩⟩
    · cases he
  · simp only [if_pos, show ¬ (101 : Int) = 110 by decide, if_false] at he
    split at he
    · injection he with he
      exact .inl ⟨x, y, h1, by assumption, h3, h4, he.symm, .inl ⟨rfl, rfl⟩⟩
    · cases he
  · simp only [if_pos, show ¬ (115 : Int) = 110 by decide, show ¬ (115 : Int) = 101 by decide, if_false] at he
    split at he
    · injection he with he
      exact .inr ⟨x, y, h1, h2, h3, by assumption, he.symm, .inl ⟨rfl, rfl⟩⟩
    · cases he
  · simp only [show ¬ (119 : Int) = 110 by decide, show ¬ (119 : Int) = 101 by decide, show ¬ (119 : Int) = 115 by decide, if_false] at he
    split at he
    · injection he with he
      exact .inl ⟨x - 1, y, by omega, by omega, h3, h4, he.symm, .inr ⟨by rw [show x - 1 + 1 = x by omega], rfl⟩⟩
    · cases he
theorem lev_lt {w h x y : Int} (hw : w = 1 ∨ w = 2 ∨ w = 3 ∨ w = 4 ∨ w = 5) (h2 : x < w) (h3 : 0 ≤ y) (h4 : y ≤ h) (h1 : 0 ≤ x) : (y * w + x).toNat < (w * (h + 1)).toNat := by
  rcases hw with rfl | rfl | rfl | rfl | rfl <;> omega
theorem ed_lt {w h : Int} (g : GridOK w h) {p : S32} {d : Int} {e : Nat} (hd : four4 d) (hp : edC w h p d = some e) : e < figN w h := by
  have cw := (grid_cases g).1
  unfold figN
  rcases ed_place hd hp with ⟨x, y, h1, h2, h3, h4, h5, h6⟩ | ⟨x, y, h1, h2, h3, h4, h5, h6⟩
  · have := lev_lt (h := h) (by omega) h2 h3 h4 h1
    omega
  · have := lev_lt (w := w + 1) (h := h - 1) (by omega) (by omega : x < w + 1) h3 (by omega) h1
    rw [show h - 1 + 1 = h by omega, Int.mul_comm (w + 1) h] at this
    omega

def dirs4 : List Int := [110, 101, 115, 119]
theorem stepB_iff {w h : Int} {m : Nat} {c : S32} {d : Int} : stepB w h m c.f0 c.f1 d = true ↔ ∃ e, edC w h c d = some e ∧ m.testBit e = true := by
  unfold stepB edC
  cases btwE w h c.f0 c.f1 d with
  | none => exact ⟨fun h => (by cases h), fun ⟨e, h, _⟩ => (by cases h)⟩
  | some e => exact ⟨fun h => ⟨e, rfl, h⟩, fun ⟨e', h, h2⟩ => by injection h with h; rw [h]; exact h2⟩
theorem liNext4 {w h : Int} (g : GridOK w h) {m : Nat} (hm : m < 2 ^ figN w h) (k : Nat) (hk : 1000000 < k) (c : S32) (hc : inC w h c.f0 c.f1) (i : Nat) (hi : i < dirs4.length) :
    spec_liNext.f k w h (rowA w h m) (rowU w h m) c.f0 c.f1 (i : Int) = some ((nxC c dirs4[i]).f0, (nxC c dirs4[i]).f1, stepB w h m c.f0 c.f1 dirs4[i]) := by
  have lA := rowA_len g m
  have lU := rowU_len g m
  obtain ⟨h0, h1, h2, h3⟩ := liNext_f g (figB_rows g m) (by omega) (by omega) k hk c.f0 c.f1 hc
  rw [figMask_rows g hm] at h0 h1 h2 h3
  have hi4 : i < 4 := hi
  rcases (show i = 0 ∨ i = 1 ∨ i = 2 ∨ i = 3 by omega) with rfl | rfl | rfl | rfl
  · exact h0
  · exact h1
  · exact h2
  · exact h3

end Go.Proofs.YteaglkpplgbpaaaDoor.P
namespace Go.Proofs.YteaglkpplgbpaaaDoor.P
open Go.RowKit Go.Proofs.YteaglkpplgbpaaaDoorW.PrintWords Go.Proofs.YteaglkpplgbpaaaDoorW.PrintLast Go.Proofs.YteaglkpplgbpaaaDoorW.PrintMore
attribute [local go_sem] max2_int min2_int max_two min_two max_three min_three max_four min_four   -- for this text's walks alone
set_option linter.unusedVariables false
set_option linter.unusedSimpArgs false

def step4 (b : UInt8) : Bool := b == 110 || b == 101 || b == 115 || b == 119
def drawN (w h : Int) : S32 → List UInt8 → Nat → Option Nat
 | _, [], m => some m
 | c, b :: t, m => if step4 b = true then (match edC w h c ((b.toNat : Nat) : Int) with
  | none => none
  | some e => if m.testBit e = true then none else drawN w h (nxC c ((b.toNat : Nat) : Int)) t (m ||| 2 ^ e)) else none
def dirI (b : Int) : Int := if b = 110 then 0 else if b = 101 then 1 else if b = 115 then 2 else if b = 119 then 3 else -1
def dD (j : Nat) : Int := if j = 0 then 110 else if j = 1 then 101 else if j = 2 then 115 else 119
theorem step4_iff (b : UInt8) : step4 b = true ↔ ∃ i : Nat, i < 4 ∧ dirI ((b.toNat : Nat) : Int) = (i : Int) ∧ dD i = ((b.toNat : Nat) : Int) := by
 have hall : ∀ b : Fin 256, (step4 (UInt8.ofNat b.val) = true ↔ ∃ i : Fin 4, dirI ((b.val : Nat) : Int) = (i.val : Int) ∧ dD i.val = ((b.val : Nat) : Int)) := by decide +kernel
 have h := hall ⟨b.toNat, b.toNat_lt⟩
 have e : UInt8.ofNat b.toNat = b := UInt8.ofNat_toNat
 dsimp only at h
 rw [e] at h
 rw [h]
 constructor
 ·rintro ⟨i, h1, h2⟩; exact ⟨i.val, i.isLt, h1, h2⟩
 ·rintro ⟨i, h0, h1, h2⟩; exact ⟨⟨i, h0⟩, h1, h2⟩
theorem step4_no (b : UInt8) (h : step4 b = false) : dirI ((b.toNat : Nat) : Int) < 0 := by
 have hall : ∀ b : Fin 256, step4 (UInt8.ofNat b.val) = false → dirI ((b.val : Nat) : Int) < 0 := by decide +kernel
 have h2 := hall ⟨b.toNat, b.toNat_lt⟩
 have e : UInt8.ofNat b.toNat = b := UInt8.ofNat_toNat
 dsimp only at h2
 rw [e] at h2
 exact h2 h
theorem step4_four (b : UInt8) (h : step4 b = true) : four4 ((b.toNat : Nat) : Int) := by
 obtain ⟨i, h0, -, h2⟩ := (step4_iff b).1 h
 unfold four4
 rw [← h2]
 rcases (show i = 0 ∨ i = 1 ∨ i = 2 ∨ i = 3 by omega) with rfl | rfl | rfl | rfl <;> decide
section
variable {w h : Int}
theorem dir_at (s : ByteArray) (j : Nat) (hj : j < 4) : bt (⟨#[110, 101, 115, 119]⟩ : ByteArray) (j : Int) = dD j := by
 rcases (show j = 0 ∨ j = 1 ∨ j = 2 ∨ j = 3 by omega) with rfl | rfl | rfl | rfl <;> rfl
theorem ldr_dir (s : ByteArray) (i : Nat) (hi : i < s.size) (b : Int) (hb : bt s (i : Int) = b) (K : Nat) (X Y f0 f1 o0 o1 : Int) (fa fu oa ou : List Int) :
  spec_liDraw.l1 (K + 4) s (i : Int) (-1) 0 X Y f0 f1 fa fu o0 o1 oa ou = spec_liDraw.l1 K s (i : Int) (dirI b) 4 X Y f0 f1 fa fu o0 o1 oa ou := by
 have c0 : (0 : Int) ≤ (i : Int) := Int.natCast_nonneg _
 have c1 : (i : Int) < (s.size : Int) := Int.ofNat_lt.2 hi
 have st : ∀ (K j : Nat) (x : Int), j < 4 → spec_liDraw.l1 (K + 1) s (i : Int) x (j : Int) X Y f0 f1 fa fu o0 o1 oa ou = spec_liDraw.l1 K s (i : Int) (if b = dD j then (j : Int) else x) ((j + 1 : Nat) : Int) X Y f0 f1 fa fu o0 o1 oa ou := by
  intro K j x hj
  have e1 : wrap64 ((j : Int) + 1) = ((j + 1 : Nat) : Int) := by unfold wrap64; omega
  rw [spec_liDraw.l1, if_pos (show (j : Int) < 4 by omega), if_pos c0, if_pos c1]
  unfold spec_liDirs.f
  rw [Option.bind_some, if_pos (Int.natCast_nonneg _), if_pos (show (j : Int) < ((⟨#[110, 101, 115, 119]⟩ : ByteArray).size : Int) from (show (j : Int) < 4 by omega)), dir_at s j hj, hb, e1]
  by_cases hd : b = dD j
  ·rw [if_pos hd, if_pos hd]
  ·rw [if_neg hd, if_neg hd]
 have s0 := st (K + 3) 0 (-1) (by omega)
 rw [show spec_liDraw.l1 (K + 4) s (i : Int) (-1) 0 X Y f0 f1 fa fu o0 o1 oa ou = _ from s0, st (K + 2) 1 _ (by omega), st (K + 1) 2 _ (by omega), st K 3 _ (by omega)]
 have e : (if b = dD 3 then ((3 : Nat) : Int) else if b = dD 2 then ((2 : Nat) : Int) else if b = dD 1 then ((1 : Nat) : Int) else if b = dD 0 then ((0 : Nat) : Int) else -1) = dirI b := by
  show (if b = 119 then (3 : Int) else if b = 115 then 2 else if b = 101 then 1 else if b = 110 then 0 else -1) = dirI b
  unfold dirI
  by_cases h0 : b = 110
  ·subst h0; decide
  ·by_cases h1 : b = 101
   ·subst h1; decide
   ·by_cases h2 : b = 115
    ·subst h2; decide
    ·rw [if_neg h2, if_neg h1, if_neg h0, if_neg h0, if_neg h1, if_neg h2]
 rw [e]
 rfl
theorem rows_zero (w h : Int) : rowA w h 0 = [] ∧ rowU w h 0 = [] := by
 have z : ∀ (n : Nat) (p : Nat → Bool), (∀ i, p i = false) → setL n p = [] := fun n p hp => by
  unfold setL
  rw [List.filter_eq_nil_iff.2 (fun i _ => by rw [hp i]; decide), List.map_nil]
 exact ⟨z _ _ fun i => Nat.zero_testBit i, z _ _ fun i => Nat.zero_testBit _⟩
theorem liEdge_f (g : GridOK w h) (k : Nat) (hk : 1000000 < k) (a u : List Int) {c : S32} {i : Nat} (hi : i < 4) {e : Nat} (he : edC w h c (dD i) = some e) : spec_liEdge.f k w h a u c.f0 c.f1 (i : Int) = some (w, h, rowA w h (2 ^ e), rowU w h (2 ^ e)) := by
 have hc := grid_in he
 obtain ⟨⟨h1, h2⟩, h3, h4⟩ := id hc
 have w4 := g.w4
 have hh4 := g.h4
 have hp : (0 : Nat) < 2 ^ figN w h := Nat.two_pow_pos _
 obtain ⟨r1, r2⟩ := rows_zero w h
 have eL : ∀ x y : Int, 0 ≤ x → x ≤ w - 1 → 0 ≤ y → y ≤ h → spec_fiPut.f k w h [] [] false x y = some (w, h, rowA w h (2 ^ (y * w + x).toNat), rowU w h (2 ^ (y * w + x).toNat)) := fun x y a1 a2 a3 a4 => by
  have := fiPut_level g hp k hk x y a1 a2 a3 a4
  rw [r1, r2, Nat.zero_or] at this
  exact this
 have eU : ∀ x y : Int, 0 ≤ x → x ≤ w → 0 ≤ y → y ≤ h - 1 → spec_fiPut.f k w h [] [] true x y = some (w, h, rowA w h (2 ^ ((w * (h + 1)).toNat + (y * (w + 1) + x).toNat)), rowU w h (2 ^ ((w * (h + 1)).toNat + (y * (w + 1) + x).toNat))) := fun x y a1 a2 a3 a4 => by
  have := fiPut_upright g hp k hk x y a1 a2 a3 a4
  rw [r1, r2, Nat.zero_or] at this
  exact this
 have wy : wrap64 (c.f1 - 1) = c.f1 - 1 := by unfold wrap64; omega
 have wx : wrap64 (c.f0 - 1) = c.f0 - 1 := by unfold wrap64; omega
 unfold edC btwE at he
 rw [if_pos hc] at he
 rcases (show i = 0 ∨ i = 1 ∨ i = 2 ∨ i = 3 by omega) with rfl | rfl | rfl | rfl
 ·have he : (if 1 ≤ c.f1 then some ((w * (h + 1)).toNat + ((c.f1 - 1) * (w + 1) + c.f0).toNat) else none) = some e := he
  by_cases hh : 1 ≤ c.f1
  ·rw [if_pos hh] at he
   injection he with he
   unfold spec_liEdge.f
   rw [if_pos (show ((0 : Nat) : Int) = 0 from rfl), wy, eU _ _ h1 h2 (by omega) (by omega), Option.bind_some, he]
  ·rw [if_neg hh] at he; cases he
 ·have he : (if c.f0 < w then some (c.f1 * w + c.f0).toNat else none) = some e := he
  by_cases hh : c.f0 < w
  ·rw [if_pos hh] at he
   injection he with he
   unfold spec_liEdge.f
   rw [if_neg (show ¬ ((1 : Nat) : Int) = 0 by decide), if_pos (show ((1 : Nat) : Int) = 1 from rfl), eL _ _ h1 (by omega) h3 h4, Option.bind_some, he]
  ·rw [if_neg hh] at he; cases he
 ·have he : (if c.f1 < h then some ((w * (h + 1)).toNat + (c.f1 * (w + 1) + c.f0).toNat) else none) = some e := he
  by_cases hh : c.f1 < h
  ·rw [if_pos hh] at he
   injection he with he
   unfold spec_liEdge.f
   rw [if_neg (show ¬ ((2 : Nat) : Int) = 0 by decide), if_neg (show ¬ ((2 : Nat) : Int) = 1 by decide), if_pos (show ((2 : Nat) : Int) = 2 from rfl), eU _ _ h1 h2 h3 (by omega), Option.bind_some, he]
  ·rw [if_neg hh] at he; cases he
 ·have he : (if 1 ≤ c.f0 then some (c.f1 * w + (c.f0 - 1)).toNat else none) = some e := he
  by_cases hh : 1 ≤ c.f0
  ·rw [if_pos hh] at he
   injection he with he
   unfold spec_liEdge.f
   rw [if_neg (show ¬ ((3 : Nat) : Int) = 0 by decide), if_neg (show ¬ ((3 : Nat) : Int) = 1 by decide), if_neg (show ¬ ((3 : Nat) : Int) = 2 by decide), wx, eL _ _ (by omega) (by omega) h3 h4, Option.bind_some, he]
  ·rw [if_neg hh] at he; cases he
theorem diff_diff {n m e : Nat} (hm : m < 2 ^ n) (he : e < n) : diffN (2 ^ n - 1) (diffN (diffN (2 ^ n - 1) m) (2 ^ e)) = m ||| 2 ^ e := by
 apply Nat.eq_of_testBit_eq
 intro i
 rw [diffN_test, diffN_test, diffN_test, Nat.testBit_or, Nat.testBit_two_pow_sub_one, Nat.testBit_two_pow]
 by_cases hi : i < n
 ·rw [decide_eq_true hi]
  cases m.testBit i <;> by_cases h2 : e = i <;> simp [h2]
 ·have hmi : m.testBit i = false := Nat.testBit_lt_two_pow (Nat.lt_of_lt_of_le hm (Nat.pow_le_pow_right (by omega) (by omega)))
  rw [decide_eq_false hi, hmi, decide_eq_false (show ¬ e = i by omega)]
  rfl
def drawO (w h : Int) (o : Option Nat) : Option (Int × Int × List Int × List Int × Bool) := match o with
 | some M => some (w, h, rowA w h M, rowU w h M, true)
 | none => some (0, 0, ([] : List Int), ([] : List Int), false)
theorem ldr_l0 (g : GridOK w h) (s : ByteArray) (hs : s.size ≤ 1000000) : ∀ (d k i : Nat) (c : S32) (m : Nat), s.size - i = d → i ≤ s.size → inC w h c.f0 c.f1 → m < 2 ^ figN w h → 6 * d + 3000100 < k →
  spec_liDraw.l0 k s (i : Int) c.f0 c.f1 w h (rowA w h (2 ^ figN w h - 1)) (rowU w h (2 ^ figN w h - 1)) w h (rowA w h m) (rowU w h m) = drawO w h (drawN w h c (s.data.toList.drop i) m) := by
 have hlen : s.data.toList.length = s.size := by simp
 intro d
 induction d with
 | zero =>
  intro k i c m h1 h2 h3 h4 h5
  obtain ⟨k, rfl⟩ : ∃ q, k = q + 1 := ⟨k - 1, by omega⟩
  obtain rfl : i = s.size := by omega
  rw [spec_liDraw.l0, if_neg (Int.lt_irrefl _), List.drop_of_length_le (by omega)]
  rfl
 | succ d ih =>
  intro k i c m h1 h2 h3 h4 h5
  obtain ⟨k, rfl⟩ : ∃ q, k = q + 6 := ⟨k - 6, by omega⟩
  have hi : i < s.size := by omega
  have hiL : i < s.data.toList.length := by omega
  have ih := fun (c : S32) (m : Nat) (q1 : inC w h c.f0 c.f1) (q2 : m < 2 ^ figN w h) => ih k (i + 1) c m (by omega) (by omega) q1 q2 (by omega)
  have e1 : wrap64 ((i : Int) + 1) = ((i + 1 : Nat) : Int) := by clear ih h4 hlen hiL h5; unfold wrap64; omega
  have hk1 : 1000000 < k := by omega
  have hk3 : 3000000 < k := by omega
  have hbt : bt s (i : Int) = ((s.data.toList[i].toNat : Nat) : Int) := by
   unfold bt
   rw [Int.toNat_natCast, dif_pos hi]
   rfl
  rw [spec_liDraw.l0, if_pos (Int.ofNat_lt.2 hi), show k + 5 = (k + 1) + 4 from rfl, ldr_dir s i hi _ hbt, List.drop_eq_getElem_cons hiL, spec_liDraw.l1, if_neg (by decide), drawN]
  cases hst : step4 s.data.toList[i] with
  | false =>
   rw [if_pos (step4_no _ hst), if_neg (by decide)]
   rfl
  | true =>
   obtain ⟨j, j4, jd, jb⟩ := (step4_iff _).1 hst
   have hF : 2 ^ figN w h - 1 < 2 ^ figN w h := Nat.sub_lt (Nat.two_pow_pos _) (by decide)
   have hjd : dirs4[j]'j4 = dD j := by
    rcases (show j = 0 ∨ j = 1 ∨ j = 2 ∨ j = 3 by omega) with rfl | rfl | rfl | rfl <;> rfl
   have n1 := liNext4 g hF k hk1 c h3 j j4
   have n2 := liNext4 g h4 k hk1 c h3 j j4
   rw [hjd] at n1 n2
   rw [jd, if_neg (show ¬ (j : Int) < 0 by omega), if_pos rfl, n1, Option.bind_some, ← jb]
   dsimp only
   have hfour : four4 (dD j) := by rw [jb]; exact step4_four _ hst
   cases hed : edC w h c (dD j) with
   | none =>
    have hs1 : stepB w h (2 ^ figN w h - 1) c.f0 c.f1 (dD j) = false := by
     rw [Bool.eq_false_iff]
     intro q
     obtain ⟨e, h6, -⟩ := stepB_iff.1 q
     rw [hed] at h6; cases h6
    rw [if_neg (by rw [hs1]; decide)]
    rfl
   | some e =>
    have helt := ed_lt g hfour hed
    have hs1 : stepB w h (2 ^ figN w h - 1) c.f0 c.f1 (dD j) = true := stepB_iff.2 ⟨e, hed, by rw [Nat.testBit_two_pow_sub_one, decide_eq_true helt]⟩
    rw [if_pos hs1, n2, Option.bind_some]
    dsimp only
    cases hmt : m.testBit e with
    | true =>
     have hs2 : stepB w h m c.f0 c.f1 (dD j) = true := stepB_iff.2 ⟨e, hed, hmt⟩
     rw [if_pos hs2, if_pos rfl]
     rfl
    | false =>
     have hs2 : ¬ stepB w h m c.f0 c.f1 (dD j) = true := fun q => by
      obtain ⟨e', h6, h7⟩ := stepB_iff.1 q
      rw [hed] at h6
      injection h6 with h6
      rw [h6, h7] at hmt; cases hmt
     rw [if_neg hs2, if_neg (by decide), fiMissing_f g k hk3, Option.bind_some]
     dsimp only
     rw [liEdge_f g k hk1 _ _ j4 hed, Option.bind_some]
     dsimp only
     rw [fiLess_f g k hk3, Option.bind_some]
     dsimp only
     rw [fiMissing_f g k hk3, Option.bind_some]
     dsimp only
     rw [diff_diff h4 helt, e1]
     exact ih _ _ (next_in hfour hed) (Nat.or_lt_two_pow h4 (Nat.pow_lt_pow_right (by omega) helt))
theorem liDraw_f (g : GridOK w h) (s : ByteArray) (hs : s.size ≤ 1000000) (c : S32) (hc : inC w h c.f0 c.f1) (k : Nat) (hk : 6 * s.size + 3000100 < k) : spec_liDraw.f k w h c.f0 c.f1 s = drawO w h (drawN w h c s.data.toList 0) := by
 have H := ldr_l0 g s hs s.size k 0 c 0 (Nat.sub_zero _) (Nat.zero_le _) hc (Nat.two_pow_pos _) hk
 rw [(rows_zero w h).1, (rows_zero w h).2, List.drop_zero] at H
 unfold spec_liDraw.f
 rw [fiFull_f g k (by omega), Option.bind_some]
 exact H
end

end Go.Proofs.YteaglkpplgbpaaaDoor.P
namespace Go.Proofs.YteaglkpplgbpaaaDoor.P
open Go.RowKit Go.Proofs.YteaglkpplgbpaaaDoorW.PrintWords Go.Proofs.YteaglkpplgbpaaaDoorW.PrintLast Go.Proofs.YteaglkpplgbpaaaDoorW.PrintMore
attribute [local go_sem] max2_int min2_int max_two min_two max_three min_three max_four min_four   -- for this text's walks alone
set_option linter.unusedVariables false
set_option linter.unusedSimpArgs false

theorem isCorner_f (w h x y : Int) : impl_grid_isCorner.f w h x y = some (decide (inC w h x y)) := by
  unfold impl_grid_isCorner.f inC
  rw [within_f, within_f, Option.bind_some, Option.bind_some]
  by_cases h1 : 0 ≤ x ∧ x ≤ w
  · rw [decide_eq_true h1.1, decide_eq_true h1.2]
    simp [h1]
  · rw [show (decide (0 ≤ x) && decide (x ≤ w)) = false by rw [Bool.eq_false_iff]; intro hh; simp at hh; exact h1 hh]
    simp [h1]
def maskE : Option Nat → Nat | none => 0 | some e => 2 ^ e
theorem between_f {w h x y d : Int} (g : GridOK w h) (hd : d = 110 ∨ d = 101 ∨ d = 115 ∨ d = 119) (k : Nat) (hk : 0 < k) : impl_grid_between.f k w h x y d = some ((maskE (btwE w h x y d) : Nat) : Int) := by
  obtain ⟨k, rfl⟩ : ∃ q, k = q + 1 := ⟨k - 1, by omega⟩
  have w1 := g.w1
  have w4 := g.w4
  have h1 := g.h1
  have h4 := g.h4
  by_cases hc : inC w h x y
  · obtain ⟨⟨hx0, hx1⟩, hy0, hy1⟩ := id hc
    have wy1 : wrap64 (y - 1) = y - 1 := by unfold wrap64; omega
    have wy2 : wrap64 (y + 1) = y + 1 := by unfold wrap64; omega
    have wx1 : wrap64 (x - 1) = x - 1 := by unfold wrap64; omega
    have wx2 : wrap64 (x + 1) = x + 1 := by unfold wrap64; omega
    rcases hd with rfl | rfl | rfl | rfl
    · unfold impl_grid_between.f impl_Corner_next.f btwE
      rw [if_pos rfl, if_pos hc, if_pos rfl, Option.bind_some, isCorner_f, isCorner_f, Option.bind_some, Option.bind_some, decide_eq_true hc, if_pos rfl, wy1]
      simp only [impl_grid_between.j0]
      by_cases hy : 1 ≤ y
      · rw [decide_eq_true (show inC w h x (y - 1) from ⟨⟨hx0, hx1⟩, by omega, by omega⟩), if_neg (by simp), if_neg (by omega), if_pos hy, show mn y (y - 1) = y - 1 by unfold mn; omega, upright_f g hx0 (by omega) (by omega) (by omega)]
        rfl
      · rw [decide_eq_false (show ¬ inC w h x (y - 1) from fun hh => by have := hh.2.1; omega), if_pos (by simp), if_neg hy]
        rfl
    · unfold impl_grid_between.f impl_Corner_next.f btwE
      rw [if_neg (by decide), if_pos rfl, if_pos hc, if_neg (by decide), if_pos rfl, Option.bind_some, isCorner_f, isCorner_f, Option.bind_some, Option.bind_some, decide_eq_true hc, if_pos rfl, wx2]
      simp only [impl_grid_between.j0]
      by_cases hx : x < w
      · rw [decide_eq_true (show inC w h (x + 1) y from ⟨⟨by omega, by omega⟩, hy0, hy1⟩), if_neg (by simp), if_pos (by trivial), if_pos hx, show mn x (x + 1) = x by unfold mn; omega, level_f g hx0 (by omega) hy0 (by omega)]
        rfl
      · rw [decide_eq_false (show ¬ inC w h (x + 1) y from fun hh => by have := hh.1.2; omega), if_pos (by simp), if_neg hx]
        rfl
    · unfold impl_grid_between.f impl_Corner_next.f btwE
      rw [if_neg (by decide), if_neg (by decide), if_pos rfl, if_pos hc, if_neg (by decide), if_neg (by decide), if_pos rfl, Option.bind_some, isCorner_f, isCorner_f, Option.bind_some, Option.bind_some, decide_eq_true hc, if_pos rfl, wy2]
      simp only [impl_grid_between.j0]
      by_cases hy : y < h
      · rw [decide_eq_true (show inC w h x (y + 1) from ⟨⟨hx0, hx1⟩, by omega, by omega⟩), if_neg (by simp), if_neg (by omega), if_pos hy, show mn y (y + 1) = y by unfold mn; omega, upright_f g hx0 (by omega) hy0 (by omega)]
        rfl
      · rw [decide_eq_false (show ¬ inC w h x (y + 1) from fun hh => by have := hh.2.2; omega), if_pos (by simp), if_neg hy]
        rfl
    · unfold impl_grid_between.f impl_Corner_next.f btwE
      rw [if_neg (by decide), if_neg (by decide), if_neg (by decide), if_pos hc, if_neg (by decide), if_neg (by decide), if_neg (by decide), Option.bind_some, isCorner_f, isCorner_f, Option.bind_some, Option.bind_some, decide_eq_true hc, if_pos rfl, wx1]
      simp only [impl_grid_between.j0]
      by_cases hx : 1 ≤ x
      · rw [decide_eq_true (show inC w h (x - 1) y from ⟨⟨by omega, by omega⟩, hy0, hy1⟩), if_neg (by simp), if_pos (by trivial), if_pos hx, show mn x (x - 1) = x - 1 by unfold mn; omega, level_f g (by omega) (by omega) hy0 (by omega)]
        rfl
      · rw [decide_eq_false (show ¬ inC w h (x - 1) y from fun hh => by have := hh.1.1; omega), if_pos (by simp), if_neg hx]
        rfl
  · have hn : ∃ p, impl_Corner_next.f x y d = some p := by
      unfold impl_Corner_next.f
      rcases hd with rfl | rfl | rfl | rfl <;> exact ⟨_, rfl⟩
    obtain ⟨p, hp⟩ := hn
    unfold impl_grid_between.f btwE
    rw [hp, Option.bind_some, isCorner_f, Option.bind_some, decide_eq_false hc, if_neg (by simp), if_neg hc]
    simp only [impl_grid_between.j0]
    rfl


theorem next4_f {w h : Int} {c : S32} {d : Int} {e : Nat} (g : GridOK w h) (hd : four4 d) (he : edC w h c d = some e) : impl_Corner_next.f c.f0 c.f1 d = some ((nxC c d).f0, (nxC c d).f1) := by
  have hc := grid_in he
  have w4 := g.w4
  have h4 := g.h4
  obtain ⟨⟨h1, h2⟩, h3, h5⟩ := hc
  unfold impl_Corner_next.f nxC
  have e1 : wrap64 (c.f1 - 1) = c.f1 - 1 := by unfold wrap64; omega
  have e2 : wrap64 (c.f0 + 1) = c.f0 + 1 := by unfold wrap64; omega
  have e3 : wrap64 (c.f1 + 1) = c.f1 + 1 := by unfold wrap64; omega
  have e4 : wrap64 (c.f0 - 1) = c.f0 - 1 := by unfold wrap64; omega
  rw [e1, e2, e3, e4]
  rcases hd with rfl | rfl | rfl | rfl <;> rfl


theorem dropWhile_head {α : Type} {p : α → Bool} : ∀ {l : List α} {a : α} {t : List α}, l.dropWhile p = a :: t → p a = false
  | [], a, t, h => by simp at h
  | b :: l, a, t, h => by
    rw [List.dropWhile_cons] at h
    split at h
    · exact dropWhile_head h
    · rename_i hb
      injection h with h1 _
      subst h1
      simpa using hb
theorem dropWhile_nil {α : Type} {p : α → Bool} : ∀ {l : List α}, l.dropWhile p = [] ↔ ∀ x ∈ l, p x = true
  | [] => by simp
  | b :: l => by
    rw [List.dropWhile_cons]
    cases hb : p b with
    | true =>
      rw [if_pos rfl, dropWhile_nil]
      constructor
      · intro h x hx
        rcases List.mem_cons.1 hx with rfl | hx
        · exact hb
        · exact h x hx
      · intro h x hx
        exact h x (List.mem_cons_of_mem _ hx)
    | false =>
      rw [if_neg (by simp)]
      constructor
      · intro h; cases h
      · intro h
        have := h b List.mem_cons_self
        rw [hb] at this
        cases this
theorem trim_nil (l cs : List UInt8) : (Lib.trimS l cs).isEmpty = l.all fun b => cs.contains b := by
  unfold Lib.trimS Lib.trimLeftS Lib.trimRightS
  rw [Bool.eq_iff_iff, List.isEmpty_iff, List.all_eq_true]
  constructor
  · intro h x hx
    rw [dropWhile_nil] at h
    cases hr : l.reverse.dropWhile (cs.contains ·) with
    | nil =>
      rw [dropWhile_nil] at hr
      exact hr x (List.mem_reverse.2 hx)
    | cons a t =>
      have h1 := dropWhile_head hr
      have h2 := h a (by rw [hr]; simp)
      rw [h1] at h2
      cases h2
  · intro h
    have hr : l.reverse.dropWhile (cs.contains ·) = [] := by
      rw [dropWhile_nil]
      intro x hx
      exact h x (List.mem_reverse.1 hx)
    rw [hr]
    rfl


theorem textRows_lens (w h m n : Nat) : ∀ y, (textRows w h m y).map List.length = (textRows w h n y).map List.length
 | 0 => rfl
 | y + 1 => by
  have ih := textRows_lens w h m n y
  unfold textRows
  split <;> simp [ih, rowL_len]
theorem rowL_at {c : UInt8} (hc : c ≠ 46) {p q : Nat → Bool} {n : Nat} (h : rowL c p n = rowL c q n) : ∀ x, x < n → p x = q x := by
 intro x hx
 unfold rowL at h
 have h2 := (List.map_inj_left.1 h) x (List.mem_range.2 hx)
 cases hp : p x <;> cases hq : q x
 ·rfl
 ·rw [hp, hq] at h2; exact absurd h2.symm hc
 ·rw [hp, hq] at h2; exact absurd h2 hc
 ·rfl
theorem textRows_bits {w h m n : Nat} : ∀ Y, Y ≤ h + 1 → textRows w h m Y = textRows w h n Y → ∀ y, y < Y → (∀ x, x < w → levP w m y x = levP w n y x) ∧ (y < h → ∀ x, x < w + 1 → uprP w h m y x = uprP w h n y x)
 | 0, _, _, y, hy => absurd hy (by omega)
 | Y + 1, hY, he, y, hy => by
  rw [textRows, textRows] at he
  by_cases hh : Y < h
  ·rw [if_pos hh, if_pos hh] at he
   obtain ⟨e1, e3⟩ := List.append_inj' he rfl
   obtain ⟨e1, e2⟩ := List.append_inj' e1 rfl
   by_cases hyY : y < Y
   ·exact textRows_bits Y (by omega) e1 y hyY
   ·obtain rfl : y = Y := by omega
    injection e2 with e2 _
    injection e3 with e3 _
    exact ⟨rowL_at (by decide) e2, fun _ => rowL_at (by decide) e3⟩
  ·rw [if_neg hh, if_neg hh] at he
   obtain ⟨e1, e2⟩ := List.append_inj' he rfl
   by_cases hyY : y < Y
   ·exact textRows_bits Y (by omega) e1 y hyY
   ·obtain rfl : y = Y := by omega
    injection e2 with e2 _
    exact ⟨rowL_at (by decide) e2, fun z => absurd z hh⟩
theorem figText_inj {w h m n : Nat} (hw : 1 ≤ w) (hm : m < 2 ^ (w * (h + 1) + h * (w + 1))) (hn : n < 2 ^ (w * (h + 1) + h * (w + 1))) (he : figText w h m = figText w h n) : m = n := by
 have h1 : Lib.join (textRows w h m (h + 1)) [47] = Lib.join (textRows w h n (h + 1)) [47] := by
  have := congrArg (fun b : ByteArray => b.data.toList) he
  simpa [figText, BA] using this
 have h2 := join_inj (textRows_lens w h m n (h + 1)) h1
 have h3 := textRows_bits (h + 1) (Nat.le_refl _) h2
 apply Nat.eq_of_testBit_eq
 intro e
 by_cases hl : e < w * (h + 1)
 ·have hy : e / w < h + 1 := Nat.div_lt_of_lt_mul hl
  have hx : e % w < w := Nat.mod_lt _ hw
  have := (h3 (e / w) hy).1 (e % w) hx
  unfold levP at this
  rw [show e / w * w + e % w = e by rw [Nat.mul_comm]; exact Nat.div_add_mod e w] at this
  exact this
 ·by_cases hu : e < w * (h + 1) + h * (w + 1)
  ·obtain ⟨z, rfl⟩ : ∃ z, e = w * (h + 1) + z := ⟨e - w * (h + 1), by omega⟩
   have hz : z < (w + 1) * h := by rw [Nat.mul_comm]; omega
   have hy : z / (w + 1) < h := Nat.div_lt_of_lt_mul hz
   have hx : z % (w + 1) < w + 1 := Nat.mod_lt _ (Nat.succ_pos _)
   have := (h3 (z / (w + 1)) (by omega)).2 hy (z % (w + 1)) hx
   unfold uprP at this
   rw [show z / (w + 1) * (w + 1) + z % (w + 1) = z by rw [Nat.mul_comm]; exact Nat.div_add_mod z (w + 1)] at this
   exact this
  ·rw [Nat.testBit_lt_two_pow (Nat.lt_of_lt_of_le hm (Nat.pow_le_pow_right (by omega) (by omega))), Nat.testBit_lt_two_pow (Nat.lt_of_lt_of_le hn (Nat.pow_le_pow_right (by omega) (by omega)))]
theorem bytes_inj {a b : ByteArray} : (a.toList == b.toList) = decide (a = b) := by
 rw [Lib.toList_data, Lib.toList_data]
 by_cases h : a = b
 ·subst h; simp
 ·rw [decide_eq_false h, beq_eq_false_iff_ne]
  intro q
  exact h (ByteArray.ext (Array.toList_inj.1 q))
theorem strokeL_f {w h : Int} (g : GridOK w h) (k : Nat) (hk : 0 < k) : ∀ (L : List UInt8) (c : S32) (m : Nat), (∀ b ∈ L, step4 b = true) → m < 2 ^ figN w h → strokeL k w h L c.f0 c.f1 (m : Int) = some (match drawN w h c L m with | some M => ((M : Int), true) | none => (0, false))
 | [], c, m, _, _ => rfl
 | b :: t, c, m, hL, hm => by
  have hst := hL b List.mem_cons_self
  have hfour := step4_four b hst
  have hbt := between_f (x := c.f0) (y := c.f1) g hfour k hk
  rw [strokeL, hbt, Option.bind_some, drawN, if_pos hst]
  have hed : btwE w h c.f0 c.f1 ((b.toNat : Nat) : Int) = edC w h c ((b.toNat : Nat) : Int) := rfl
  rw [hed]
  cases he : edC w h c ((b.toNat : Nat) : Int) with
  | none => rw [if_pos (show ((maskE none : Nat) : Int) = 0 from rfl)]
  | some e =>
   have helt := ed_lt g hfour he
   have h40 := (figN_le g).1
   have hp : (0 : Nat) < 2 ^ e := Nat.two_pow_pos _
   have hm60 := pow_figN g hm
   have he60 : (2 : Nat) ^ e < 2 ^ 60 := Nat.pow_lt_pow_right (by decide) (by omega)
   have hand := and_edgeB hm60 (show e < 60 by omega)
   have hor := or_u64 m (2 ^ e) hm60 he60
   have hne : ¬ ((2 ^ e : Nat) : Int) = 0 := by
    intro q
    have q2 : (2 : Nat) ^ e = 0 := Int.ofNat_inj.1 q
    omega
   have hmk : ((maskE (some e) : Nat) : Int) = ((2 ^ e : Nat) : Int) := rfl
   rw [hmk, if_neg hne, hand, hor]
   dsimp only
   cases hmt : m.testBit e with
   | true => rw [if_pos rfl, if_pos rfl]
   | false =>
    rw [if_neg (by decide), if_neg (by decide), next4_f g hfour he, Option.bind_some]
    exact strokeL_f g k hk t (nxC c ((b.toNat : Nat) : Int)) _ (fun b' hb' => hL b' (List.mem_cons_of_mem _ hb')) (Nat.or_lt_two_pow hm (Nat.pow_lt_pow_right (by decide) helt))
theorem areSteps_f (s : ByteArray) (hs : s.size ≤ 1000000) : impl_areSteps.f s = some (decide (s.size ≤ 40) && s.data.toList.all step4) := by
 unfold impl_areSteps.f strings_Trim.f
 by_cases h : s.size ≤ 40
 ·rw [if_pos (by omega), if_pos ⟨by omega, .inl rfl⟩, Option.bind_some, decide_eq_true h, Bool.true_and]
  congr 1
  rw [Lib.toList_data]
  have h2 := trim_nil s.data.toList [110, 101, 115, 119]
  have h3 : (s.data.toList.all fun b => ([110, 101, 115, 119] : List UInt8).contains b) = s.data.toList.all step4 := by
   congr 1
   funext b
   unfold step4
   simp [Bool.or_assoc]
   rfl
  rw [h3] at h2
  rw [← h2]
  generalize Lib.trimS s.data.toList [110, 101, 115, 119] = z
  show (z.toArray.toList == []) = z.isEmpty
  cases z <;> rfl
 ·rw [if_neg (by omega), decide_eq_false h, Bool.false_and]
theorem spec_isk_l0 {w h x y : Int} {a u : List Int} (s : ByteArray) (hs : s.size ≤ 40) : ∀ (d k i : Nat), s.size - i = d → i ≤ s.size → d < k →
  spec_IsStroke.l0 k s (i : Int) w h a u x y = if (s.data.toList.drop i).all step4 = true then spec_IsStroke.l0 (k - d) s (s.size : Int) w h a u x y else some (false, false) := by
 have hlen : s.data.toList.length = s.size := by simp
 intro d
 induction d with
 | zero =>
  intro k i h1 h2 h3
  obtain rfl : i = s.size := by omega
  rw [List.drop_of_length_le (by omega), if_pos (by rfl)]
  rfl
 | succ d ih =>
  intro k i h1 h2 h3
  obtain ⟨k, rfl⟩ : ∃ q, k = q + 1 := ⟨k - 1, by omega⟩
  have hi : i < s.size := by omega
  have hiL : i < s.data.toList.length := by omega
  have ih := ih k (i + 1) (by omega) (by omega) (by omega)
  have e1 : wrap64 ((i : Int) + 1) = ((i + 1 : Nat) : Int) := by clear ih; unfold wrap64; omega
  have hbt : bt s (i : Int) = ((s.data.toList[i].toNat : Nat) : Int) := by
   unfold bt
   rw [Int.toNat_natCast, dif_pos hi]
   rfl
  rw [show k + 1 - (d + 1) = k - d by omega, spec_IsStroke.l0, if_pos (Int.ofNat_lt.2 hi), if_pos (Int.natCast_nonneg _), hbt, e1, ih, List.drop_eq_getElem_cons hiL, List.all_cons]
  clear ih
  have hb : step4 s.data.toList[i] = (decide (((s.data.toList[i].toNat : Nat) : Int) = 110) || decide (((s.data.toList[i].toNat : Nat) : Int) = 101) || decide (((s.data.toList[i].toNat : Nat) : Int) = 115) || decide (((s.data.toList[i].toNat : Nat) : Int) = 119)) := by
   have q : ∀ c d : UInt8, (c == d) = decide (((c.toNat : Nat) : Int) = ((d.toNat : Nat) : Int)) := fun c d => by
    by_cases h : c = d
    ·subst h; simp
    ·rw [decide_eq_false (fun z => h (UInt8.toNat_inj.1 (by exact_mod_cast z)))]
     simpa using h
   unfold step4
   rw [q _ 110, q _ 101, q _ 115, q _ 119]
   rfl
  rw [hb]
  generalize ((s.data.toList[i].toNat : Nat) : Int) = b
  by_cases h0 : b = 110
  ·rw [if_pos h0, decide_eq_true h0]; simp
  ·rw [if_neg h0, decide_eq_false h0]
   by_cases h1 : b = 101
   ·rw [if_pos h1, decide_eq_true h1]; simp
   ·rw [if_neg h1, decide_eq_false h1]
    by_cases h2 : b = 115
    ·rw [if_pos h2, decide_eq_true h2]; simp
    ·rw [if_neg h2, decide_eq_false h2]
     by_cases h3 : b = 119
     ·rw [if_pos h3, decide_eq_true h3]; simp
     ·rw [if_neg h3, decide_eq_false h3]; simp
theorem drawN_lt {w h : Int} (g : GridOK w h) : ∀ (L : List UInt8) (c : S32) (m M : Nat), m < 2 ^ figN w h → drawN w h c L m = some M → M < 2 ^ figN w h
 | [], c, m, M, hm, hd => by injection hd with hd; rw [← hd]; exact hm
 | b :: t, c, m, M, hm, hd => by
  unfold drawN at hd
  by_cases hst : step4 b = true
  ·rw [if_pos hst] at hd
   cases he : edC w h c ((b.toNat : Nat) : Int) with
   | none => simp only [he] at hd; cases hd
   | some e =>
    simp only [he] at hd
    by_cases hmt : m.testBit e = true
    ·rw [if_pos hmt] at hd; cases hd
    ·rw [if_neg hmt] at hd
     exact drawN_lt g t _ _ _ (Nat.or_lt_two_pow hm (Nat.pow_lt_pow_right (by decide) (ed_lt g (step4_four b hst) he))) hd
  ·rw [if_neg hst] at hd; cases hd
set_option maxHeartbeats 2000000 in
theorem IsStroke_pure {w h : Int} {a u : List Int} (ha : a.length ≤ 1000000) (hu : u.length ≤ 1000000) (x y : Int) (s : ByteArray) (hs : s.size ≤ 1000000) : ∃ r1 r2, spec_IsStroke.f 4000001 w h a u x y s = some (r1, r2) ∧ impl_IsStroke.f 4000001 w h a u x y s = some (r1, r2) := by
 have sF : ∀ x', spec_IsStroke.j0 4000001 s true w h a u x' y = some (false, false) := fun x' => by
  rw [show (4000001 : Nat) = 4000000 + 1 from rfl, spec_IsStroke.j0, if_pos rfl]
 have iF : ∀ x', impl_IsStroke.j0 4000001 s true w h a u x' y = some (false, false) := fun x' => by
  rw [show (4000001 : Nat) = 4000000 + 1 from rfl, impl_IsStroke.j0, if_pos rfl]
 cases hf : figB w h a u with
 | false =>
  refine ⟨false, false, ?_, ?_⟩
  ·unfold spec_IsStroke.f
   rw [fiGood_f w h a u ha hu _ (by decide), hf, Option.bind_some, if_neg (by decide)]
   exact sF x
  ·unfold impl_IsStroke.f impl_isCornerOf.f
   rw [IsFigure_f w h a u ha hu _ (by decide), hf, Option.bind_some, if_neg (by decide), Option.bind_some, if_neg (by decide)]
   exact iF x
 | true =>
  have g := gridOK_of hf
  obtain ⟨W, rfl⟩ := Int.eq_ofNat_of_zero_le (show 0 ≤ w by have := g.w1; omega)
  obtain ⟨H, rfl⟩ := Int.eq_ofNat_of_zero_le (show 0 ≤ h by have := g.h1; omega)
  have hw1 : 1 ≤ W := by have := g.w1; omega
  have hM := figMask_figN hf
  have hst := set_f hf ha hu 4000000 (by decide)
  have hC : spec_liCorner.f (W : Int) (H : Int) a u x y = some (decide (inC (W : Int) (H : Int) x y)) := by
   unfold spec_liCorner.f spec_l1In.f
   by_cases h1 : x ≥ 0
   ·rw [if_pos h1, Option.bind_some]
    by_cases h2 : x ≤ (W : Int)
    ·rw [if_pos (decide_eq_true h2)]
     by_cases h3 : y ≥ 0
     ·rw [if_pos h3, Option.bind_some]
      congr 1
      exact decide_eq_decide.2 ⟨fun q => ⟨⟨h1, h2⟩, h3, q⟩, fun ⟨_, _, q⟩ => q⟩
     ·rw [if_neg h3, Option.bind_some, decide_eq_false (fun ⟨_, q, _⟩ => h3 q)]
    ·rw [if_neg (by rw [decide_eq_true_eq]; exact h2), decide_eq_false (fun ⟨⟨_, q⟩, _⟩ => h2 q)]
   ·rw [if_neg h1, Option.bind_some, if_neg (by decide), decide_eq_false (fun ⟨⟨q, _⟩, _⟩ => h1 q)]
  have hI : impl_isCornerOf.f 4000001 (W : Int) (H : Int) a u [(⟨x, y⟩ : S32)] = some (decide (inC (W : Int) (H : Int) x y)) := by
   unfold impl_isCornerOf.f
   rw [IsFigure_f _ _ a u ha hu _ (by decide), hf, Option.bind_some, if_pos rfl]
   congr 1
   rw [List.all_cons, List.all_nil, Bool.and_true]
   exact decide_eq_decide.2 Iff.rfl
  by_cases hin : inC (W : Int) (H : Int) x y
  ·rw [decide_eq_true hin] at hC hI
   have hS : spec_IsStroke.f 4000001 (W : Int) (H : Int) a u x y s = spec_IsStroke.j0 4000001 s (decide ((s.size : Int) > 40)) (W : Int) (H : Int) a u x y := by
    unfold spec_IsStroke.f
    rw [fiGood_f _ _ a u ha hu _ (by decide), hf, Option.bind_some, if_pos rfl, hC, Option.bind_some, if_pos rfl]
   have hIm : impl_IsStroke.f 4000001 (W : Int) (H : Int) a u x y s = impl_IsStroke.j0 4000001 s (!(decide (s.size ≤ 40) && s.data.toList.all step4)) (W : Int) (H : Int) a u x y := by
    unfold impl_IsStroke.f
    rw [hI, Option.bind_some, if_pos rfl, areSteps_f s hs, Option.bind_some]
   by_cases h40 : s.size ≤ 40
   ·have e40 : decide ((s.size : Int) > 40) = false := by rw [decide_eq_false]; omega
    rw [e40] at hS
    rw [decide_eq_true h40, Bool.true_and] at hIm
    have hl := spec_isk_l0 (w := (W : Int)) (h := (H : Int)) (x := x) (y := y) (a := a) (u := u) s h40 s.size 4000000 0 (Nat.sub_zero _) (Nat.zero_le _) (by omega)
    rw [List.drop_zero] at hl
    have hS2 : spec_IsStroke.f 4000001 (W : Int) (H : Int) a u x y s = spec_IsStroke.l0 4000000 s ((0 : Nat) : Int) (W : Int) (H : Int) a u x y := by
     rw [hS, show (4000001 : Nat) = 4000000 + 1 from rfl, spec_IsStroke.j0, if_neg (by decide)]
     rfl
    rw [hl] at hS2
    cases hall : s.data.toList.all step4 with
    | false =>
     rw [hall] at hIm hS2
     rw [if_neg (by decide)] at hS2
     exact ⟨false, false, hS2, by rw [hIm]; exact iF x⟩
    | true =>
     rw [hall] at hIm hS2
     rw [if_pos rfl] at hS2
     obtain ⟨k2, hk2⟩ : ∃ q, 4000000 - s.size = q + 1 := ⟨4000000 - s.size - 1, by omega⟩
     have hk3 : 3500000 ≤ k2 := by omega
     have hLst : ∀ b ∈ s.data.toList, step4 b = true := List.all_eq_true.1 hall
     have hdr := liDraw_f g s hs ⟨x, y⟩ hin k2 (by omega)
     have hstk := strokeL_f g 4000000 (by decide) s.data.toList ⟨x, y⟩ 0 hLst (Nat.two_pow_pos _)
     have hstk2 : impl_grid_stroke.f 4000000 (W : Int) (H : Int) x y s = some (match drawN (W : Int) (H : Int) ⟨x, y⟩ s.data.toList 0 with | some M => ((M : Int), true) | none => (0, false)) := by
      unfold impl_grid_stroke.f
      rw [if_pos (by omega)]
      exact hstk
     rw [hk2, spec_IsStroke.l0, if_neg (Int.lt_irrefl _), hdr] at hS2
     have hI2 : impl_IsStroke.f 4000001 (W : Int) (H : Int) a u x y s = (if (match drawN (W : Int) (H : Int) ⟨x, y⟩ s.data.toList 0 with | some M => ((M : Int), true) | none => ((0 : Int), false)).2 = true then some (((match drawN (W : Int) (H : Int) ⟨x, y⟩ s.data.toList 0 with | some M => ((M : Int), true) | none => ((0 : Int), false)).1 == ((figMask (W : Int) (H : Int) a u : Nat) : Int)), true) else some (false, true)) := by
      rw [hIm, show (4000001 : Nat) = 4000000 + 1 from rfl, impl_IsStroke.j0, if_neg (by decide)]
      unfold impl_Figure_grid.f
      rw [Option.bind_some]
      dsimp only
      rw [hstk2, Option.bind_some, hst]
      rfl
     cases hdn : drawN (W : Int) (H : Int) ⟨x, y⟩ s.data.toList 0 with
     | none =>
      rw [hdn] at hS2 hI2
      exact ⟨false, true, by rw [hS2]; rfl, by rw [hI2]; rfl⟩
     | some M =>
      rw [hdn] at hS2 hI2
      have hMlt := drawN_lt g _ _ _ _ (Nat.two_pow_pos _) hdn
      have lA := rowA_len g M
      have lU := rowU_len g M
      have t1 := fiText_f (figB_rows g M) (by omega) (by omega) k2 (by omega)
      rw [figMask_rows g hMlt] at t1
      have t2 := fiText_f hf ha hu k2 (by omega)
      have eF : figN (W : Int) (H : Int) = W * (H + 1) + H * (W + 1) := by
       unfold figN
       have q1 : (W : Int) * ((H : Int) + 1) = ((W * (H + 1) : Nat) : Int) := by push_cast; rfl
       have q2 : (H : Int) * ((W : Int) + 1) = ((H * (W + 1) : Nat) : Int) := by push_cast; rfl
       rw [q1, q2, Int.toNat_natCast, Int.toNat_natCast]
      rw [eF] at hMlt hM
      refine ⟨decide (M = figMask (W : Int) (H : Int) a u), true, ?_, ?_⟩
      ·rw [hS2]
       unfold drawO
       dsimp only
       rw [Option.bind_some]
       dsimp only
       rw [if_pos rfl, t1, Option.bind_some, t2, Option.bind_some, bytes_inj]
       congr 2
       exact decide_eq_decide.2 ⟨figText_inj hw1 hMlt hM, fun q => by rw [q]⟩
      ·rw [hI2]
       dsimp only
       rw [if_pos rfl]
       congr 2
       by_cases e : M = figMask (W : Int) (H : Int) a u
       ·rw [decide_eq_true e, e]; simp
       ·rw [decide_eq_false e, beq_eq_false_iff_ne]
        intro q
        exact e (Int.ofNat_inj.1 q)
   ·refine ⟨false, false, ?_, ?_⟩
    ·rw [hS, decide_eq_true (by omega)]
     exact sF x
    ·rw [hIm, decide_eq_false h40]
     exact iF x
  ·rw [decide_eq_false hin] at hC hI
   refine ⟨false, false, ?_, ?_⟩
   ·unfold spec_IsStroke.f
    rw [fiGood_f _ _ a u ha hu _ (by decide), hf, Option.bind_some, if_pos rfl, hC, Option.bind_some, if_neg (by decide)]
    exact sF x
   ·unfold impl_IsStroke.f
    rw [hI, Option.bind_some, if_neg (by decide)]
    exact iF x

end Go.Proofs.YteaglkpplgbpaaaDoor.P
/- A world in which utf8's two tables are laid. -/
namespace Go.Proofs.YteaglkpplgbpaaaDoor.LaidW
abbrev LAID : List (String × DataW Unit) := [("unicode/utf8.acceptRanges", Rows.laid_unicode_utf8_acceptRanges), ("unicode/utf8.first", Rows.laid_unicode_utf8_first)]
def cellsA : Array Value := ([128, 191, 160, 191, 128, 159, 144, 191, 128, 143, 0, 0, 0, 0, 0, 0, 0, 0, 0, 0, 0, 0, 0, 0, 0, 0, 0, 0, 0, 0, 0, 0].map fun k : Nat => Value.int .u8 (k : Int)).toArray
def cellsF : Array Value := (Go.Pinned.utf8FirstZ.map fun k : Nat => Value.int .u8 (k : Int)).toArray
def putCells (c : Array Value) : Obj → Obj
  | .cells _ t frozen => .cells c t frozen
  | o => o
noncomputable def laidWorld (os : Os) : World :=
  { World.holding Tryd.prog os ⟨#[], #[], []⟩ with heap := ((World.holding Tryd.prog os ⟨#[], #[], []⟩).heap.modify 1 (putCells cellsA)).modify 0 (putCells cellsF) }
set_option maxRecDepth 100000 in
theorem laidWorld_met (os : Os) (args : Array Value) : laidMetH Tryd.prog LAID ((laidWorld os).forCall (fun _ _ => 0) ⟨#[], args, []⟩).memory :=
  laidMetH_of_parts (laidMet_of_run' 8 (by kernel_rfl) (by kernel_rfl)) (by kernel_rfl)
end Go.Proofs.YteaglkpplgbpaaaDoor.LaidW
namespace Go.Proofs.YteaglkpplgbpaaaDoor.fnExactIsStroke
open Go.ChangeMaps (open_string shut_string)
open Go.ChangeShapes Go.WideShapes Go.ChangeAt Go.RowKit Go.Proofs.YteaglkpplgbpaaaDoorW.PrintWords Go.Joins
set_option linter.unusedVariables false
theorem own : ownKnob Tryd.prog.godebug = none := Closed.own
theorem laidOut : laidOutB Tryd.prog = true := Closed.laidOut
def IsRow (k : IntKind) (w : World) (a : Option Addr) (len cap : Nat) (zs : List Int) : Prop :=
 (a = none ∧ len = 0 ∧ cap = 0 ∧ zs = []) ∨
 ∃ x, a = some x ∧ len ≤ cap ∧ cap ≤ maxLen ∧ zs.length = cap ∧ (∀ i, i < zs.length → w.cell? (x.add i) = some (.int k (zs.getD i 0))) ∧ ∀ n ∈ zs, (Lit.int k n).wf = true
theorem opened {H : Type} {enc : TypeId × Value → H} {W : World} {m : Nat} {c : Value} {y : DataW H × List MemPlace} (hy : DataW.trod enc Tryd.prog W 0 (fun _ => true) true m 22 [c] = some y) :
  ∃ a len cap zs, c = .slice a len cap ∧ IsRow .i64 W a len cap zs := by
 rcases open_ints Tryd.underlying22 Tryd.underlying3 (by kernel_rfl) hy with ⟨hcs, _⟩ | ⟨x, l, c, zs, hcs, _, hl, hm, hz, _, hcell, hwz⟩
 ·simp at hcs
  exact ⟨none, 0, 0, [], hcs, .inl ⟨rfl, rfl, rfl, rfl⟩⟩
 ·simp at hcs
  exact ⟨some x, l, c, zs, hcs, .inr ⟨_, rfl, hl, hm, by simpa using hz, hcell, hwz⟩⟩
theorem walk (a b : Int) (A2 : Option Addr) (n2 c2 : Nat) (z2 : List Int) (A3 : Option Addr) (n3 c3 : Nat) (z3 : List Int) (x1_0 x1_1 : Int) (x2 : ByteArray) (w : World) (w2 : IsRow .i64 w A2 n2 c2 z2) (w3 : IsRow .i64 w A3 n3 c3 z3) (y2 : n2 * 8 ≤ 140737488351232) (y3 : n3 * 8 ≤ 140737488351232) (zs : x2.size ≤ 140737488351232) :
  Calls Tryd.prog 3 #[.agg #[.int .i64 a, .int .i64 b, .slice A2 n2 c2, .slice A3 n3 c3], .agg #[.int .i64 x1_0, .int .i64 x1_1], .string x2] w fun e w' => e = .returned (.bool true) ∧ Below w.heap.size w w' := by
 obtain ⟨l2, rfl, hr2, hm2, hw2, hc2⟩ := ReadsInt.ofRowC w2
 obtain ⟨l3, rfl, hr3, hm3, hw3, hc3⟩ := ReadsInt.ofRowC w3
 have k2 := Kd.C_of_reads (d := (0 : Int)) (h1 := fun _ => rfl) hr2
 have k3 := Kd.C_of_reads (d := (0 : Int)) (h1 := fun _ => rfl) hr3
 by_cases hbig : (l2.length : Int) + (l3.length : Int) ≤ 1000000 - (x2.size : Int)
 ·have b2 : l2.length ≤ 1000000 := by omega
  have b3 : l3.length ≤ 1000000 := by omega
  obtain ⟨r1, r2, hp1, hp2⟩ := P.IsStroke_pure (w := a) (h := b) (a := l2) (u := l3) b2 b3 x1_0 x1_1 x2 (by omega)
  exact P.law_IsStroke_yes a b A2 c2 l2 A3 c3 l3 x1_0 x1_1 x2 4000001 r1 r2 (fun _ => True) (fun _ _ _ _ => trivial) w k2 hc2 k3 hc3 trivial hbig (Nat.lt_succ_self _)
   (fun B2 d2 B3 d3 W hu2 hd2 hu3 hd3 _ => P.spec_IsStroke.calls 4000001 a b B2 d2 l2 B3 d3 l3 x1_0 x1_1 x2 r1 r2 W hu2 hd2 hu3 hd3 hp1)
   (fun B2 d2 B3 d3 W hu2 hd2 hu3 hd3 _ => P.impl_IsStroke.calls 4000001 a b B2 d2 l2 B3 d3 l3 x1_0 x1_1 x2 r1 r2 W hu2 hd2 hu3 hd3 hp2)
 ·exact P.law_IsStroke_no a b A2 c2 l2 A3 c3 l3 x1_0 x1_1 x2 w k2 hc2 k3 hc3 (by clear hbig; omega) (by clear hbig; omega) zs hbig
theorem joined_mk (P : Program) (f : FuncId) (fn : Func) (s : ChangeSpec) (c : OpenClaim) (k0 : (c.wf (OpenSpec.ofChange s)) = true) (k1 : (laidOutB P) = true) (k2 : (mapsRowed P) = true) (k3 : (fn.params.all (P.readableRec ·)) = true) (k4 : (namedTie P c.named s.vars) = true) (k5 : ((c.stops == [])) = true) (k6 : ((P.stops == [])) = true) (k7 : ((c.knobs == [])) = true) (k8 : ((P.stopKnobs == [])) = true) (k9 : ((c.inPlace == P.inPlace f)) = true) (k10 : ((c.unfollowed == P.unfollowed f)) = true) (k11 : ((c.recurses == P.recurses f)) = true) (k12 : ((c.named == P.varsNamed f)) = true) (k13 : ((c.maps == (fn.params.toList ++ s.plain.varTypes P).any (P.mapsRec ·))) = true) (k14 : ((c.ifaces == (fn.params.toList ++ s.plain.varTypes P).any (P.ifacesRec ·))) = true) (k15 : ((c.mapsOut == P.mapsAmong fn.resultTypes.toList)) = true) (k16 : ((c.loops == (fn.params.toList ++ s.plain.varTypes P).any (P.loopsFrom ·))) = true) (k17 : ((c.wideKeys == (fn.params.toList ++ s.plain.varTypes P ++ fn.resultTypes.toList).any (P.wideKeysFrom ·))) = true) (k18 : (s.vars.all (P.varReadable ·)) = true) (k19 : (fn.resultTypes.all (fun t => P.readableRec t && decide (t < P.types.size))) = true) (k20 : ((c.ifacesOut == fn.resultTypes.toList.any (P.ifacesRec ·))) = true) (k21 : ((c.loopsOut == fn.resultTypes.toList.any (P.loopsFrom ·))) = true) (k22 : ((c.plainKeys == P.plainKeys)) = true) (k23 : (c.shortTexts.isNone) = true) (k24 : (P.stopsHeard) = true) (k25 : (P.mayEnter) = true) (k26 : ((c.lifted == P.liftsFinal)) = true) (k27 : ((P.make == some c.make)) = true) (hd : c.domain.isEmpty = true) (k28 : (c.kinds == []) = true) (k29 : ((c.pinned == c.pinnedBy)) = true) (k30 : ((c.veiled == (fn.params.toList ++ s.plain.varTypes P ++ fn.resultTypes.toList).any (P.veiledRec ·))) = true) (k31 : (c.veiledFits P fn.params.toList (fn.params.toList ++ s.plain.varTypes P ++ fn.resultTypes.toList)) = true) : joinedFacts P f fn s c = true := by
 unfold joinedFacts
 simp only [hd, if_true, k0, k1, k2, k3, k4, k5, k6, k7, k8, k9, k10, k11, k12, k13, k14, k15, k16, k17, k18, k19, k20, k21, k22, k23, k24, k25, k26, k27, k28, k29, k30, k31, Bool.and_self]
abbrev LAID : List (String × DataW Unit) := LaidW.LAID
set_option maxRecDepth 100000 in
theorem lifted (os : Os) (started : os.Started) (H : Type) (enc : TypeId × Value → H) :
  ReturnsInHanded {} Tryd.checked os 3 .any (fun w args => (Rows.fnExactIsStrokeSpec.pre enc Tryd.prog Tryd.f3 [] false w args ∧ laidMetH Tryd.prog LAID w) ∧ sizedMet enc Tryd.prog Tryd.f3 (OpenSpec.ofChange Rows.fnExactIsStrokeSpec) false w args) (Rows.fnExactIsStrokeSpec.post enc Tryd.prog Tryd.f3 false true false false) := by
 refine returnsInHanded_of_change_and (C := Tryd.checked) (X := fun w _ => laidMetH Tryd.prog LAID w) (fun _ _ _ hh h => h.of_heap hh) own started (by kernel_rfl) Tryd.func3 (ChangeSpec.witness_at (enc := enc) (C := Tryd.checked) (os := os) (X := fun w _ => laidMetH Tryd.prog LAID w) false (LaidW.laidWorld os) #[.agg #[.int .i64 0, .int .i64 0, .slice none 0 0, .slice none 0 0], .agg #[.int .i64 0, .int .i64 0], .string ByteArray.empty] 8 rfl (by kernel_rfl) (by kernel_rfl) (by kernel_rfl) (by kernel_rfl) (by kernel_rfl) (LaidW.laidWorld_met os _)) ?_
 intro W base args ds gs before hval0 hW hcnd hsz0 hL _
 have hsz : (DataW.weightsEach Tryd.prog (Tryd.f3.params.toList ++ Rows.fnExactIsStrokeSpec.plain.varTypes Tryd.prog) (ds ++ gs)).all (· ≤ reachBytes) = true := hsz0
 have hval : ∀ (j : Nat) t v, Tryd.f3.params[j]? = some t → args[j]? = some v → Value.okWide Tryd.prog W .any base t v := hval0
 have hW' := hW
 obtain ⟨p, q, hA0, hV, rfl, hfz, hnd⟩ := hW
 have hA : DataW.TrodAll enc Tryd.prog W 0 (fun _ => true) true Tryd.f3.params.toList args.toList ds p := hA0
 rw [Tryd.params3] at hA hval hsz
 obtain ⟨v0, vs0, d0, ds0, p0, q0, hargs, rfl, rfl, h0, r0⟩ := trodAll_cons hA
 obtain ⟨v1, vs1, d1, ds1, p1, q1, rfl, rfl, rfl, h1, r1⟩ := trodAll_cons r0
 obtain ⟨v2, vs2, d2, ds2, p2, q2, rfl, rfl, rfl, h2, r2⟩ := trodAll_cons r1
 obtain ⟨rfl, rfl, rfl⟩ := trodAll_nil r2
 obtain rfl : args = #[v0, v1, v2] := by cases args; simp_all
 obtain ⟨rfl, rfl⟩ := trodVars_none hV
 have k0 := h0
 have lt0 : ∀ x ∈ p0, x.block < W.heap.size := by obtain ⟨m, hm⟩ := k0; exact DataW.trod_lt m _ _ _ hm
 have k1 := h1
 have lt1 : ∀ x ∈ p1, x.block < W.heap.size := by obtain ⟨m, hm⟩ := k1; exact DataW.trod_lt m _ _ _ hm
 obtain ⟨cc1_0, cc1_1, yy1_0, yy1_1, mm1, rfl, rfl, rfl, hyy1_0, hyy1_1⟩ := open_agg2 Tryd.underlying26 (by kernel_rfl) (by kernel_rfl) (hval 1 26 v1 rfl rfl) h1
 obtain ⟨x1_0, ee1_0, -, ww1_0⟩ := DataW.trod_int Tryd.underlying3 hyy1_0
 obtain ⟨x1_1, ee1_1, -, ww1_1⟩ := DataW.trod_int Tryd.underlying3 hyy1_1
 obtain rfl : cc1_0 = .int .i64 x1_0 := by simpa using ee1_0
 obtain rfl : cc1_1 = .int .i64 x1_1 := by simpa using ee1_1
 obtain ⟨x2, rfl, rfl, rfl, ys2⟩ := open_string Tryd.underlying9 (hval 2 9 v2 rfl rfl) h2
 have w2z : x2.size ≤ 140737488351232 := by
  have z := sized_string hsz (j := 2) (t := 9) rfl rfl
  rw [Array.length_toList] at z
  exact z
 obtain ⟨c0, c1, c2, c3, y0, y1, y2, y3, m, rfl, rfl, rfl, hy0, hy1, hy2, hy3⟩ := open_agg4 Tryd.underlying24 (by kernel_rfl) (by kernel_rfl) (hval 0 24 v0 rfl rfl) h0
 have hsz2 : (DataW.weightsEach Tryd.prog [3, 3, 22, 22] [y0.1, y1.1, y2.1, y3.1]).all (· ≤ reachBytes) = true := by
  rw [List.all_eq_true]
  intro n hn
  exact List.all_eq_true.1 hsz n (DataW.weights_mem_each (j := 0) (t := 24) (d := .agg [y0.1, y1.1, y2.1, y3.1]) rfl rfl n (by simp only [DataW.weights, Tryd.underlying24]; exact hn))
 obtain ⟨a, e0, -, wa⟩ := DataW.trod_int Tryd.underlying3 hy0
 obtain ⟨b, e1, -, wb⟩ := DataW.trod_int Tryd.underlying3 hy1
 obtain ⟨a2, len2, cap2, z2, rfl, w2⟩ := opened hy2
 obtain ⟨a3, len3, cap3, z3, rfl, w3⟩ := opened hy3
 have z2_ : len2 * 8 ≤ 140737488351232 := sized_ints hsz2 (j := 2) (t := 22) rfl rfl Tryd.underlying22 Tryd.underlying3 (by kernel_rfl) (by kernel_rfl) (⟨m, by simpa [Value.cells] using hy2⟩ : DataW.Trod enc Tryd.prog W 0 (fun _ => true) true 22 (.slice a2 len2 cap2) y2.1 y2.2)
 have z3_ : len3 * 8 ≤ 140737488351232 := sized_ints hsz2 (j := 3) (t := 22) rfl rfl Tryd.underlying22 Tryd.underlying3 (by kernel_rfl) (by kernel_rfl) (⟨m, by simpa [Value.cells] using hy3⟩ : DataW.Trod enc Tryd.prog W 0 (fun _ => true) true 22 (.slice a3 len3 cap3) y3.1 y3.2)
 obtain rfl : c0 = .int .i64 a := by simpa using e0
 obtain rfl : c1 = .int .i64 b := by simpa using e1
 clear hA0 hval0 hsz0 hsz hsz2
 refine (walk a b a2 len2 cap2 z2 a3 len3 cap3 z3 x1_0 x1_1 x2 W w2 w3 z2_ z3_ w2z).mono fun e W' ⟨he, bel⟩ => ?_
 subst he
 exact ⟨_, rfl, _, _, _, [], _, [], hW', trodAll_mk1 (shut_bool Tryd.underlying4 _), (trodAll_cons_mk (Below.trod laidOut (by kernel_rfl) (of_decide_eq_true (by kernel_rfl)) k0 bel lt0) (trodAll_cons_mk (Below.trod laidOut (by kernel_rfl) (of_decide_eq_true (by kernel_rfl)) k1 bel lt1) (trodAll_cons_mk (shut_string Tryd.underlying9 ys2) trodAll_mk0))), rfl, bel.frame _, fun h => by cases h⟩
theorem k0_ : (Rows.fnExactIsStrokeRow.wf (OpenSpec.ofChange Rows.fnExactIsStrokeSpec)) = true := by kernel_rfl
theorem k1_ : (laidOutB Tryd.prog) = true := Closed.laidOut
theorem k2_ : (mapsRowed Tryd.prog) = true := Closed.mapsRowedP
theorem k3_ : (Tryd.f3.params.all (Tryd.prog.readableRec ·)) = true := by kernel_rfl
theorem k4_ : (namedTie Tryd.prog Rows.fnExactIsStrokeRow.named Rows.fnExactIsStrokeSpec.vars) = true := by kernel_rfl
theorem k5_ : ((Rows.fnExactIsStrokeRow.stops == [])) = true := by kernel_rfl
theorem k6_ : ((Tryd.prog.stops == [])) = true := Closed.noStops
theorem k7_ : ((Rows.fnExactIsStrokeRow.knobs == [])) = true := by kernel_rfl
theorem k8_ : ((Tryd.prog.stopKnobs == [])) = true := Closed.noKnobs
theorem k9_ : ((Rows.fnExactIsStrokeRow.inPlace == Tryd.prog.inPlace 3)) = true := by kernel_rfl
theorem k10_ : ((Rows.fnExactIsStrokeRow.unfollowed == Tryd.prog.unfollowed 3)) = true := by kernel_rfl
theorem k11_ : ((Rows.fnExactIsStrokeRow.recurses == Tryd.prog.recurses 3)) = true := by kernel_rfl
theorem k12_ : ((Rows.fnExactIsStrokeRow.named == Tryd.prog.varsNamed 3)) = true := by kernel_rfl
theorem k13_ : ((Rows.fnExactIsStrokeRow.maps == (Tryd.f3.params.toList ++ Rows.fnExactIsStrokeSpec.plain.varTypes Tryd.prog).any (Tryd.prog.mapsRec ·))) = true := by kernel_rfl
theorem k14_ : ((Rows.fnExactIsStrokeRow.ifaces == (Tryd.f3.params.toList ++ Rows.fnExactIsStrokeSpec.plain.varTypes Tryd.prog).any (Tryd.prog.ifacesRec ·))) = true := by kernel_rfl
theorem k15_ : ((Rows.fnExactIsStrokeRow.mapsOut == Tryd.prog.mapsAmong Tryd.f3.resultTypes.toList)) = true := by kernel_rfl
theorem k16_ : ((Rows.fnExactIsStrokeRow.loops == (Tryd.f3.params.toList ++ Rows.fnExactIsStrokeSpec.plain.varTypes Tryd.prog).any (Tryd.prog.loopsFrom ·))) = true := by kernel_rfl
theorem k17_ : ((Rows.fnExactIsStrokeRow.wideKeys == (Tryd.f3.params.toList ++ Rows.fnExactIsStrokeSpec.plain.varTypes Tryd.prog ++ Tryd.f3.resultTypes.toList).any (Tryd.prog.wideKeysFrom ·))) = true := by kernel_rfl
theorem k18_ : (Rows.fnExactIsStrokeSpec.vars.all (Tryd.prog.varReadable ·)) = true := by kernel_rfl
theorem k19_ : (Tryd.f3.resultTypes.all (fun t => Tryd.prog.readableRec t && decide (t < Tryd.prog.types.size))) = true := by kernel_rfl
theorem k20_ : ((Rows.fnExactIsStrokeRow.ifacesOut == Tryd.f3.resultTypes.toList.any (Tryd.prog.ifacesRec ·))) = true := by kernel_rfl
theorem k21_ : ((Rows.fnExactIsStrokeRow.loopsOut == Tryd.f3.resultTypes.toList.any (Tryd.prog.loopsFrom ·))) = true := by kernel_rfl
theorem k22_ : ((Rows.fnExactIsStrokeRow.plainKeys == Tryd.prog.plainKeys)) = true := by kernel_rfl
theorem k23_ : (Rows.fnExactIsStrokeRow.shortTexts.isNone) = true := by kernel_rfl
theorem k24_ : (Tryd.prog.stopsHeard) = true := Closed.stopsHeard
theorem k25_ : (Tryd.prog.mayEnter) = true := Closed.mayEnter
theorem k26_ : ((Rows.fnExactIsStrokeRow.lifted == Tryd.prog.liftsFinal)) = true := by rw [Closed.liftsFinal]; kernel_rfl
theorem k27_ : ((Tryd.prog.make == some Rows.fnExactIsStrokeRow.make)) = true := by rw [Closed.make]; kernel_rfl
theorem k28_ : ((Rows.fnExactIsStrokeRow.kinds == [])) = true := by kernel_rfl
theorem k29_ : ((Rows.fnExactIsStrokeRow.pinned == Rows.fnExactIsStrokeRow.pinnedBy)) = true := by kernel_rfl
theorem k30_ : ((Rows.fnExactIsStrokeRow.veiled == (Tryd.f3.params.toList ++ Rows.fnExactIsStrokeSpec.plain.varTypes Tryd.prog ++ Tryd.f3.resultTypes.toList).any (Tryd.prog.veiledRec ·))) = true := by kernel_rfl
theorem k31_ : (Rows.fnExactIsStrokeRow.veiledFits Tryd.prog Tryd.f3.params.toList (Tryd.f3.params.toList ++ Rows.fnExactIsStrokeSpec.plain.varTypes Tryd.prog ++ Tryd.f3.resultTypes.toList)) = true := by kernel_rfl
theorem k99_ : (Rows.fnExactIsStrokeRow.domain.isEmpty) = true := by kernel_rfl
theorem closed : joinedFacts Tryd.prog 3 Tryd.f3 Rows.fnExactIsStrokeSpec Rows.fnExactIsStrokeRow = true :=
 joined_mk _ _ _ _ _ k0_ k1_ k2_ k3_ k4_ k5_ k6_ k7_ k8_ k9_ k10_ k11_ k12_ k13_ k14_ k15_ k16_ k17_ k18_ k19_ k20_ k21_ k22_ k23_ k24_ k25_ k26_ k27_ k99_ k28_ k29_ k30_ k31_
theorem over : Rows.fnExactIsStrokeRow.holds Tryd.pinned (OpenSpec.ofChange Rows.fnExactIsStrokeSpec) :=
 OpenClaim.holds_of_wide 3 Tryd.f3 rfl rfl rfl rfl rfl rfl rfl ⟨rfl, rfl, rfl, rfl, rfl⟩ rfl rfl rfl rfl rfl (by kernel_rfl) Tryd.func3 closed
  (of_decide_eq_true (by kernel_rfl)) (by unfold Func.isWrapper; first | (rw [if_pos (by decide +kernel)]; kernel_rfl) | (rw [if_neg (by decide +kernel)]; exact ⟨rfl, rfl⟩))
  (fun os started H enc _ => lifted os started H enc)
theorem card : Rows.FnExactIsStrokeCardSaid :=
 Claim7.holds_tied_plain_at .later [] [.data, .pinned] true (true, "5975feb4701370c3220111bfbddb8b8fecb3303dc5e02049898fdbb3c0d3a4b4") false
  over (fun _ h => by cases h) (by kernel_rfl) (fun _ h => by cases h) fnExactIsStroke_row_tie rfl ⟨rfl, rfl⟩ (by kernel_rfl) rfl
  (fun f fn hf hfn => by
   obtain rfl : f = 3 := Option.some.inj ((show Tryd.prog.funcNamed "loop.example/g01233/laws.FnExactIsStroke" = some 3 by kernel_rfl).symm.trans hf) |>.symm
   obtain rfl : fn = Tryd.f3 := (Option.some.inj (Tryd.func3.symm.trans hfn)).symm
   exact ⟨by kernel_rfl, fun j t ht => by
    rw [Tryd.params3] at ht
    have h3 : t = 24 ∨ t = 26 ∨ t = 9 := by
     rcases j with _ | _ | _ | j
     ·left; simpa using ht.symm
     ·right; left; simpa using ht.symm
     ·right; right; simpa using ht.symm
     ·simp at ht
    rcases h3 with rfl | rfl | rfl
    ·exact (show Tryd.prog.wantsStandIn 24 = false by kernel_rfl)
    ·exact (show Tryd.prog.wantsStandIn 26 = false by kernel_rfl)
    ·exact (show Tryd.prog.wantsStandIn 9 = false by kernel_rfl)⟩)
  (by kernel_rfl)
end Go.Proofs.YteaglkpplgbpaaaDoor.fnExactIsStroke
namespace Go.Proofs.YteaglkpplgbpaaaDoor
theorem fnExactIsStroke_holds : Rows.FnExactIsStrokeCardSaid := fnExactIsStroke.card
end Go.Proofs.YteaglkpplgbpaaaDoor
