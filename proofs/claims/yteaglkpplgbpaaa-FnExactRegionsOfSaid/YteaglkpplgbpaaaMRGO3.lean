/- For every input the law FnExactRegionsOf answers true: the program's RegionsOf tells what the reference's RegionsOf tells; no condition. (part 3 of the proof; the words of the kit's print tool and the texts of this seat, merged by a program) -/
import Derived.Test.YteaglkpplgbpaaaMRGO2
namespace Go.Proofs.Yteaglkpplgbpaaa.P
open Go.RowKit Go.Proofs.YteaglkpplgbpaaaW.PrintWords Go.Proofs.YteaglkpplgbpaaaW.PrintLast Go.Proofs.YteaglkpplgbpaaaW.PrintMore
attribute [local go_sem] max2_int min2_int max_two min_two max_three min_three max_four min_four   -- for this text's walks alone
set_option linter.unusedVariables false
set_option linter.unusedSimpArgs false

mutual
def impl_grid_regions.l0 : Nat → Int → Bool → Int → List Int → Int → Int → Int → Int → Option ((List (List Int)))
 | 0, _, _, _, _, _, _, _, _ => none
 | k + 1, x1, x2, x7, x8, x26, x27, x392000, x392001 => if x27 < x26 then (if x8.length < 17592186044416 then (impl_grid_regions.l0 k x1 x2 x7 (x8 ++ [x27]) x26 (wrap64 (x27 + 1)) x392000 x392001) else (none)) else (impl_grid_regions.l1 k x1 x2 x7 x8 (wrap64 (x7 + 1)) 0 x392000 x392001)
def impl_grid_regions.l1 : Nat → Int → Bool → Int → List Int → Int → Int → Int → Int → Option ((List (List Int)))
 | 0, _, _, _, _, _, _, _, _ => none
 | k + 1, x1, x2, x7, x8, x36, x37, x392000, x392001 => if x37 < x36 then ((impl_grid_levels.f x392000 x392001).bind fun t398 => ((impl_grid_uprights.f x392000 x392001).bind fun t399 => (impl_grid_regions.l2 k x1 x2 x7 x8 x36 x37 (wrap64 (t398 + t399)) 0 x392000 x392001))) else (impl_grid_regions.l3 k x2 x7 x8 (([] : List (List Int))) x7 0)
def impl_grid_regions.l2 : Nat → Int → Bool → Int → List Int → Int → Int → Int → Int → Int → Int → Option ((List (List Int)))
 | 0, _, _, _, _, _, _, _, _, _, _ => none
 | k + 1, x1, x2, x7, x8, x36, x37, x43, x44, x392000, x392001 => if x44 < x43 then ((impl_grid_beside.f x392000 x392001 x44).bind fun bt400 => (if bt400.1 < 0 then (impl_grid_regions.j3 k x1 x2 x7 x8 x44 x7 bt400.2 x36 x37 x43 x44 x392000 x392001) else (impl_grid_regions.j3 k x1 x2 x7 x8 x44 bt400.1 bt400.2 x36 x37 x43 x44 x392000 x392001))) else (impl_grid_regions.l1 k x1 x2 x7 x8 x36 (wrap64 (x37 + 1)) x392000 x392001)
def impl_grid_regions.j3 : Nat → Int → Bool → Int → List Int → Int → Int → Int → Int → Int → Int → Int → Int → Int → Option ((List (List Int)))
 | 0, _, _, _, _, _, _, _, _, _, _, _, _, _ => none
 | k + 1, x1, x2, x7, x8, x10, x11, x12, x36, x37, x43, x44, x392000, x392001 => if x12 < 0 then (if 0 ≤ x10 then (if (Go.bits .and .u64 (shr .u64 x1 x10) 1) = 1 then (impl_grid_regions.l2 k x1 x2 x7 x8 x36 x37 x43 (wrap64 (x44 + 1)) x392000 x392001) else (if x2 = true then (if 0 ≤ x11 then (if x11 < (x8.length : Int) then (if 0 ≤ x7 then (if x7 < (x8.length : Int) then (impl_grid_regions.l2 k x1 x2 x7 ((x8.set (x11 : Int).toNat (mn (rd x8 x11) (rd x8 x7))).set (x7 : Int).toNat (mn (rd x8 x11) (rd x8 x7))) x36 x37 x43 (wrap64 (x44 + 1)) x392000 x392001) else (none)) else (none)) else (none)) else (none)) else (if (mx x11 x7) = x7 then (impl_grid_regions.l2 k x1 x2 x7 x8 x36 x37 x43 (wrap64 (x44 + 1)) x392000 x392001) else (if 0 ≤ x11 then (if x11 < (x8.length : Int) then (if 0 ≤ x7 then (if x7 < (x8.length : Int) then (impl_grid_regions.l2 k x1 x2 x7 ((x8.set (x11 : Int).toNat (mn (rd x8 x11) (rd x8 x7))).set (x7 : Int).toNat (mn (rd x8 x11) (rd x8 x7))) x36 x37 x43 (wrap64 (x44 + 1)) x392000 x392001) else (none)) else (none)) else (none)) else (none))))) else (none)) else (if 0 ≤ x10 then (if (Go.bits .and .u64 (shr .u64 x1 x10) 1) = 1 then (impl_grid_regions.l2 k x1 x2 x7 x8 x36 x37 x43 (wrap64 (x44 + 1)) x392000 x392001) else (if x2 = true then (if 0 ≤ x11 then (if x11 < (x8.length : Int) then (if 0 ≤ x12 then (if x12 < (x8.length : Int) then (impl_grid_regions.l2 k x1 x2 x7 ((x8.set (x11 : Int).toNat (mn (rd x8 x11) (rd x8 x12))).set (x12 : Int).toNat (mn (rd x8 x11) (rd x8 x12))) x36 x37 x43 (wrap64 (x44 + 1)) x392000 x392001) else (none)) else (none)) else (none)) else (none)) else (if (mx x11 x12) = x7 then (impl_grid_regions.l2 k x1 x2 x7 x8 x36 x37 x43 (wrap64 (x44 + 1)) x392000 x392001) else (if 0 ≤ x11 then (if x11 < (x8.length : Int) then (if 0 ≤ x12 then (if x12 < (x8.length : Int) then (impl_grid_regions.l2 k x1 x2 x7 ((x8.set (x11 : Int).toNat (mn (rd x8 x11) (rd x8 x12))).set (x12 : Int).toNat (mn (rd x8 x11) (rd x8 x12))) x36 x37 x43 (wrap64 (x44 + 1)) x392000 x392001) else (none)) else (none)) else (none)) else (none))))) else (none))
def impl_grid_regions.l3 : Nat → Bool → Int → List Int → List (List Int) → Int → Int → Option ((List (List Int)))
 | 0, _, _, _, _, _, _ => none
 | k + 1, x2, x7, x8, x14, x95, x96 => if x96 < x95 then (if 0 ≤ x7 then (if x7 ≤ (x8.length : Int) then ((some (x8.take (x7 : Int).toNat : List Int)).bind fun y424 => (impl_grid_regions.l4 k x2 x7 x8 x14 x96 (([] : List Int)) x95 x96 y424 (y424.length : Int) 0)) else (none)) else (none)) else (some x14)
def impl_grid_regions.l4 : Nat → Bool → Int → List Int → List (List Int) → Int → List Int → Int → Int → List Int → Int → Int → Option ((List (List Int)))
 | 0, _, _, _, _, _, _, _, _, _, _, _ => none
 | k + 1, x2, x7, x8, x14, x15, x16, x95, x96, x102, x103, x104 => if x104 < x103 then (if 0 ≤ x104 then (if x104 < (x102.length : Int) then (if (rd x102 x104) = x15 then (if x16.length < 17592186044416 then (impl_grid_regions.l4 k x2 x7 x8 x14 x15 (x16 ++ [x104]) x95 x96 x102 x103 (wrap64 (x104 + 1))) else (none)) else (impl_grid_regions.l4 k x2 x7 x8 x14 x15 x16 x95 x96 x102 x103 (wrap64 (x104 + 1)))) else (none)) else (none)) else (if (x16.length : Int) > 0 then (if x2 = true then (if 0 ≤ x7 then (if x7 < (x8.length : Int) then (if ((rd x8 x7) = x15) then (impl_grid_regions.l3 k x2 x7 x8 x14 x95 (wrap64 (x96 + 1))) else (if x14.length < 5864062014805 then (impl_grid_regions.l3 k x2 x7 x8 (x14 ++ [x16]) x95 (wrap64 (x96 + 1))) else (none))) else (none)) else (none)) else (if x14.length < 5864062014805 then (impl_grid_regions.l3 k x2 x7 x8 (x14 ++ [x16]) x95 (wrap64 (x96 + 1))) else (none))) else (impl_grid_regions.l3 k x2 x7 x8 x14 x95 (wrap64 (x96 + 1))))
end
def impl_grid_regions.f (k : Nat) (a0_0 : Int) (a0_1 : Int) (a1 : Int) (a2 : Bool) : Option ((List (List Int))) := impl_grid_regions.l0 k a1 a2 (wrap64 (a0_0 * a0_1)) (([] : List Int)) (wrap64 ((wrap64 (a0_0 * a0_1)) + 1)) 0 a0_0 a0_1
theorem impl_grid_regions.mono_l : ∀ k, (∀ y0 y1 y2 y3 y4 y5 y6 y7, LeO (impl_grid_regions.l0 k y0 y1 y2 y3 y4 y5 y6 y7) (impl_grid_regions.l0 (k + 1) y0 y1 y2 y3 y4 y5 y6 y7)) ∧ (∀ y0 y1 y2 y3 y4 y5 y6 y7, LeO (impl_grid_regions.l1 k y0 y1 y2 y3 y4 y5 y6 y7) (impl_grid_regions.l1 (k + 1) y0 y1 y2 y3 y4 y5 y6 y7)) ∧ (∀ y0 y1 y2 y3 y4 y5 y6 y7 y8 y9, LeO (impl_grid_regions.l2 k y0 y1 y2 y3 y4 y5 y6 y7 y8 y9) (impl_grid_regions.l2 (k + 1) y0 y1 y2 y3 y4 y5 y6 y7 y8 y9)) ∧ (∀ y0 y1 y2 y3 y4 y5 y6 y7 y8 y9 y10 y11 y12, LeO (impl_grid_regions.j3 k y0 y1 y2 y3 y4 y5 y6 y7 y8 y9 y10 y11 y12) (impl_grid_regions.j3 (k + 1) y0 y1 y2 y3 y4 y5 y6 y7 y8 y9 y10 y11 y12)) ∧ (∀ y0 y1 y2 y3 y4 y5, LeO (impl_grid_regions.l3 k y0 y1 y2 y3 y4 y5) (impl_grid_regions.l3 (k + 1) y0 y1 y2 y3 y4 y5)) ∧ (∀ y0 y1 y2 y3 y4 y5 y6 y7 y8 y9 y10, LeO (impl_grid_regions.l4 k y0 y1 y2 y3 y4 y5 y6 y7 y8 y9 y10) (impl_grid_regions.l4 (k + 1) y0 y1 y2 y3 y4 y5 y6 y7 y8 y9 y10))
 | 0 => ⟨fun _ _ _ _ _ _ _ _ r h => by simp [impl_grid_regions.l0] at h, fun _ _ _ _ _ _ _ _ r h => by simp [impl_grid_regions.l1] at h, fun _ _ _ _ _ _ _ _ _ _ r h => by simp [impl_grid_regions.l2] at h, fun _ _ _ _ _ _ _ _ _ _ _ _ _ r h => by simp [impl_grid_regions.j3] at h, fun _ _ _ _ _ _ r h => by simp [impl_grid_regions.l3] at h, fun _ _ _ _ _ _ _ _ _ _ _ r h => by simp [impl_grid_regions.l4] at h⟩
 | k + 1 => by
  obtain ⟨ih0, ih1, ih2, ih3, ih4, ih5⟩ := impl_grid_regions.mono_l k
  refine ⟨?_, ?_, ?_, ?_, ?_, ?_⟩
  ·intro y0 y1 y2 y3 y4 y5 y6 y7
   unfold impl_grid_regions.l0
   repeat' first
   | (with_reducible exact ih0 _ _ _ _ _ _ _ _)
   | (with_reducible exact ih1 _ _ _ _ _ _ _ _)
   | (with_reducible exact ih2 _ _ _ _ _ _ _ _ _ _)
   | (with_reducible exact ih3 _ _ _ _ _ _ _ _ _ _ _ _ _)
   | (with_reducible exact ih4 _ _ _ _ _ _)
   | (with_reducible exact ih5 _ _ _ _ _ _ _ _ _ _ _)
   | (with_reducible exact LeO.refl _)
   | (with_reducible exact LeO.none _)
   | (with_reducible refine LeO.ite ?_ ?_)
   | (with_reducible refine LeO.bind ?_ (fun _ => ?_))
   | exact ih0 _ _ _ _ _ _ _ _
   | exact ih1 _ _ _ _ _ _ _ _
   | exact ih2 _ _ _ _ _ _ _ _ _ _
   | exact ih3 _ _ _ _ _ _ _ _ _ _ _ _ _
   | exact ih4 _ _ _ _ _ _
   | exact ih5 _ _ _ _ _ _ _ _ _ _ _
   | exact LeO.none _
   | refine LeO.ite ?_ ?_
   | refine LeO.bind ?_ (fun _ => ?_)
  ·intro y0 y1 y2 y3 y4 y5 y6 y7
   unfold impl_grid_regions.l1
   repeat' first
   | (with_reducible exact ih0 _ _ _ _ _ _ _ _)
   | (with_reducible exact ih1 _ _ _ _ _ _ _ _)
   | (with_reducible exact ih2 _ _ _ _ _ _ _ _ _ _)
   | (with_reducible exact ih3 _ _ _ _ _ _ _ _ _ _ _ _ _)
   | (with_reducible exact ih4 _ _ _ _ _ _)
   | (with_reducible exact ih5 _ _ _ _ _ _ _ _ _ _ _)
   | (with_reducible exact LeO.refl _)
   | (with_reducible exact LeO.none _)
   | (with_reducible refine LeO.ite ?_ ?_)
   | (with_reducible refine LeO.bind ?_ (fun _ => ?_))
   | exact ih0 _ _ _ _ _ _ _ _
   | exact ih1 _ _ _ _ _ _ _ _
   | exact ih2 _ _ _ _ _ _ _ _ _ _
   | exact ih3 _ _ _ _ _ _ _ _ _ _ _ _ _
   | exact ih4 _ _ _ _ _ _
   | exact ih5 _ _ _ _ _ _ _ _ _ _ _
   | exact LeO.none _
   | refine LeO.ite ?_ ?_
   | refine LeO.bind ?_ (fun _ => ?_)
  ·intro y0 y1 y2 y3 y4 y5 y6 y7 y8 y9
   unfold impl_grid_regions.l2
   repeat' first
   | (with_reducible exact ih0 _ _ _ _ _ _ _ _)
   | (with_reducible exact ih1 _ _ _ _ _ _ _ _)
   | (with_reducible exact ih2 _ _ _ _ _ _ _ _ _ _)
   | (with_reducible exact ih3 _ _ _ _ _ _ _ _ _ _ _ _ _)
   | (with_reducible exact ih4 _ _ _ _ _ _)
   | (with_reducible exact ih5 _ _ _ _ _ _ _ _ _ _ _)
   | (with_reducible exact LeO.refl _)
   | (with_reducible exact LeO.none _)
   | (with_reducible refine LeO.ite ?_ ?_)
   | (with_reducible refine LeO.bind ?_ (fun _ => ?_))
   | exact ih0 _ _ _ _ _ _ _ _
   | exact ih1 _ _ _ _ _ _ _ _
   | exact ih2 _ _ _ _ _ _ _ _ _ _
   | exact ih3 _ _ _ _ _ _ _ _ _ _ _ _ _
   | exact ih4 _ _ _ _ _ _
   | exact ih5 _ _ _ _ _ _ _ _ _ _ _
   | exact LeO.none _
   | refine LeO.ite ?_ ?_
   | refine LeO.bind ?_ (fun _ => ?_)
  ·intro y0 y1 y2 y3 y4 y5 y6 y7 y8 y9 y10 y11 y12
   unfold impl_grid_regions.j3
   repeat' first
   | (with_reducible exact ih0 _ _ _ _ _ _ _ _)
   | (with_reducible exact ih1 _ _ _ _ _ _ _ _)
   | (with_reducible exact ih2 _ _ _ _ _ _ _ _ _ _)
   | (with_reducible exact ih3 _ _ _ _ _ _ _ _ _ _ _ _ _)
   | (with_reducible exact ih4 _ _ _ _ _ _)
   | (with_reducible exact ih5 _ _ _ _ _ _ _ _ _ _ _)
   | (with_reducible exact LeO.refl _)
   | (with_reducible exact LeO.none _)
   | (with_reducible refine LeO.ite ?_ ?_)
   | (with_reducible refine LeO.bind ?_ (fun _ => ?_))
   | exact ih0 _ _ _ _ _ _ _ _
   | exact ih1 _ _ _ _ _ _ _ _
   | exact ih2 _ _ _ _ _ _ _ _ _ _
   | exact ih3 _ _ _ _ _ _ _ _ _ _ _ _ _
   | exact ih4 _ _ _ _ _ _
   | exact ih5 _ _ _ _ _ _ _ _ _ _ _
   | exact LeO.none _
   | refine LeO.ite ?_ ?_
   | refine LeO.bind ?_ (fun _ => ?_)
  ·intro y0 y1 y2 y3 y4 y5
   unfold impl_grid_regions.l3
   repeat' first
   | (with_reducible exact ih0 _ _ _ _ _ _ _ _)
   | (with_reducible exact ih1 _ _ _ _ _ _ _ _)
   | (with_reducible exact ih2 _ _ _ _ _ _ _ _ _ _)
   | (with_reducible exact ih3 _ _ _ _ _ _ _ _ _ _ _ _ _)
   | (with_reducible exact ih4 _ _ _ _ _ _)
   | (with_reducible exact ih5 _ _ _ _ _ _ _ _ _ _ _)
   | (with_reducible exact LeO.refl _)
   | (with_reducible exact LeO.none _)
   | (with_reducible refine LeO.ite ?_ ?_)
   | (with_reducible refine LeO.bind ?_ (fun _ => ?_))
   | exact ih0 _ _ _ _ _ _ _ _
   | exact ih1 _ _ _ _ _ _ _ _
   | exact ih2 _ _ _ _ _ _ _ _ _ _
   | exact ih3 _ _ _ _ _ _ _ _ _ _ _ _ _
   | exact ih4 _ _ _ _ _ _
   | exact ih5 _ _ _ _ _ _ _ _ _ _ _
   | exact LeO.none _
   | refine LeO.ite ?_ ?_
   | refine LeO.bind ?_ (fun _ => ?_)
  ·intro y0 y1 y2 y3 y4 y5 y6 y7 y8 y9 y10
   unfold impl_grid_regions.l4
   repeat' first
   | (with_reducible exact ih0 _ _ _ _ _ _ _ _)
   | (with_reducible exact ih1 _ _ _ _ _ _ _ _)
   | (with_reducible exact ih2 _ _ _ _ _ _ _ _ _ _)
   | (with_reducible exact ih3 _ _ _ _ _ _ _ _ _ _ _ _ _)
   | (with_reducible exact ih4 _ _ _ _ _ _)
   | (with_reducible exact ih5 _ _ _ _ _ _ _ _ _ _ _)
   | (with_reducible exact LeO.refl _)
   | (with_reducible exact LeO.none _)
   | (with_reducible refine LeO.ite ?_ ?_)
   | (with_reducible refine LeO.bind ?_ (fun _ => ?_))
   | exact ih0 _ _ _ _ _ _ _ _
   | exact ih1 _ _ _ _ _ _ _ _
   | exact ih2 _ _ _ _ _ _ _ _ _ _
   | exact ih3 _ _ _ _ _ _ _ _ _ _ _ _ _
   | exact ih4 _ _ _ _ _ _
   | exact ih5 _ _ _ _ _ _ _ _ _ _ _
   | exact LeO.none _
   | refine LeO.ite ?_ ?_
   | refine LeO.bind ?_ (fun _ => ?_)
theorem impl_grid_regions.mono : ∀ a0 a1 a2 a3 k, LeO (impl_grid_regions.f k a0 a1 a2 a3) (impl_grid_regions.f (k + 1) a0 a1 a2 a3) := by
 intro a0 a1 a2 a3 k
 obtain ⟨ih0, ih1, ih2, ih3, ih4, ih5⟩ := impl_grid_regions.mono_l k
 unfold impl_grid_regions.f
 repeat' first
   | (with_reducible exact ih0 _ _ _ _ _ _ _ _)
   | (with_reducible exact ih1 _ _ _ _ _ _ _ _)
   | (with_reducible exact ih2 _ _ _ _ _ _ _ _ _ _)
   | (with_reducible exact ih3 _ _ _ _ _ _ _ _ _ _ _ _ _)
   | (with_reducible exact ih4 _ _ _ _ _ _)
   | (with_reducible exact ih5 _ _ _ _ _ _ _ _ _ _ _)
   | (with_reducible exact LeO.refl _)
   | (with_reducible exact LeO.none _)
   | (with_reducible refine LeO.ite ?_ ?_)
   | (with_reducible refine LeO.bind ?_ (fun _ => ?_))
   | exact ih0 _ _ _ _ _ _ _ _
   | exact ih1 _ _ _ _ _ _ _ _
   | exact ih2 _ _ _ _ _ _ _ _ _ _
   | exact ih3 _ _ _ _ _ _ _ _ _ _ _ _ _
   | exact ih4 _ _ _ _ _ _
   | exact ih5 _ _ _ _ _ _ _ _ _ _ _
   | exact LeO.none _
   | refine LeO.ite ?_ ?_
   | refine LeO.bind ?_ (fun _ => ?_)
def impl_grid_regions.T19 : Bool × List (List Nat × List Nat) := (true, [([], []), ([], []), ([0, 1], [0, 1]), ([2], [2]), ([], []), ([], []), ([4, 5], [4, 5]), ([6], [6]), ([3, 7], [3, 7]), ([8, 0, 1, 2, 3, 4, 5, 6, 7, 8], [8])])
def impl_grid_regions.B19 : List Nat := [0, 0, 3, 7, 0, 0, 48, 112, 255, 511]
theorem impl_grid_regions.tab19 : rtab .any (opsOf Try.f48 19) = impl_grid_regions.T19 := by kernel_rfl
theorem impl_grid_regions.bits19 : waitsOk impl_grid_regions.T19.2 impl_grid_regions.B19 = true := by kernel_rfl
set_option maxHeartbeats 8000000 in
set_option maxRecDepth 100000 in
theorem impl_grid_regions.calls (k : Nat) (a0_0 : Int) (a0_1 : Int) (a1 : Int) (a2 : Bool) (r : List (List Int)) (w : World) (h : impl_grid_regions.f k a0_0 a0_1 a1 a2 = some r) :
  Calls Try.prog 48 #[.agg #[.int .i64 a0_0, .int .i64 a0_1], .int .u64 a1, .bool a2] w fun e w' => ∃ v0_ : Value, e = .returned (v0_) ∧ Kd.S (Kd.slice 3 (Kd.int .i64)) 22 w' w.heap.size (fun _ => True) v0_ r ∧ Below w.heap.size w w' := by
 have hu67 := Try.underlying67
 have HB := Aside0.mk (Below.refl w.heap.size w)
 have H : (impl_grid_regions.l0 k a1 a2 (wrap64 (a0_0 * a0_1)) (([] : List Int)) (wrap64 ((wrap64 (a0_0 * a0_1)) + 1)) 0 a0_0 a0_1) = some r := h
 clear h
 obtain ⟨y392, hy392⟩ : ∃ y_ : List Int, y_ = (([] : List Int)) := ⟨_, rfl⟩
 replace H : (impl_grid_regions.l0 k a1 a2 (wrap64 (a0_0 * a0_1)) y392 (wrap64 ((wrap64 (a0_0 * a0_1)) + 1)) 0 a0_0 a0_1) = some r := by first | (rw [hy392]; with_reducible exact H) | (have H2_ := (Option.bind_some _ _).symm.trans H; rw [hy392]; with_reducible exact H2_) | (have H2_ := (Option.bind_some _ _).symm.trans H; with_reducible exact H2_) | with_reducible exact H | (rw [hy392]; exact H) | exact H
 have Ny392 := Aside0.mk hy392
 clear hy392
 have H' := Aside0.mk H
 clear H
 go_enter Try.func48, Try.ntmps48
 go_wp2_with (first | ((with_reducible refine gate_dst (N := 3) rfl ?_); (try (refine gate_guard (by rfl) ?_; dsimp only)); refine boxE_ (N := 3) (cs := #[.int .i64 a0_0, .int .i64 a0_1]) (t := 67) ?_; intro gb391 hg w4 hbox hb; have n0_ := Aside0.mk (below_step (bl0_ HB.out) hb); have n1_ := Aside0.mk (hbox); have n2_ := Aside0.mk ((bs0_ hg HB.out : w.heap.size ≤ gb391)); have n3_ := Aside0.mk ((bs0_ hg HB.out : w.heap.size ≤ gb391)); clear HB; have HB := n0_; have BK391 := n1_; have GW391 := n2_; have GE391 := n3_; clear n0_ n1_ n2_ n3_; clear hb hbox hg; have hcz5_0 : w4.cell? ⟨gb391, 0, none⟩ = some (.int .i64 a0_0) := (blk_cell BK391.out 0).trans rfl; have hcz5_1 : w4.cell? ⟨gb391, 1, none⟩ = some (.int .i64 a0_1) := (blk_cell BK391.out 1).trans rfl; have hfz5_0 := blk_frozen BK391.out 0; have hfz5_1 := blk_frozen BK391.out 1) | ((with_reducible refine gate_dst (N := 24) rfl ?_); (try (refine gate_guard (by rfl) ?_; dsimp only)); refine Kd.R_lit (Kd.int .i64) _ 3 ?hg (N := 24) ?hd (xs := ([] : List Int)) (inner := []) (ok := fun _ => True) (okp := fun _ => True) ?hr ?hp (fun _ hk => hk) trivial (Below.refl _ _) (Nat.le_refl _) (by simp) ?_; (case hd => rfl); (case hg => rfl); (case hr => first | (go_simp; done) | (go_simp; rfl)); (case hp => exact (Reps.none _ _)); intro v393 w6 ho7 hb hg_ hnew_; clear hg_ hnew_; (first | rw [← Ny392.out] at ho7 | (simp only [Int.reduceToNat] at ho7; rw [← Ny392.out] at ho7)); have n0_ := Aside0.mk (Kd.R_lower ho7 (below_size (bl1_ HB.out GE391.out))); have n1_ := Aside0.mk (bb_ BK391.out hb); have n2_ := Aside0.mk (below_step (bl1_ HB.out GE391.out) hb); clear BK391; clear HB; have HO394 := n0_; have BK391 := n1_; have HB := n2_; clear n0_ n1_ n2_; clear hb ho7))
 go_loopg [8, 27] k (fun kq v8 v27 w' => ∃ (x8_1 : List Int) (x27_1 : Int), v27 = .int .i64 x27_1 ∧ Aside0 (impl_grid_regions.l0 kq a1 a2 (wrap64 (a0_0 * a0_1)) x8_1 (wrap64 ((wrap64 (a0_0 * a0_1)) + 1)) x27_1 a0_0 a0_1 = some r) ∧ Aside0 (kq ≤ k) ∧ Aside0 (Kd.R (Kd.int .i64) 3 w' w.heap.size (fun _ => True) v8 x8_1) ∧ Aside0 (w'.heap[gb391]? = some (.cells #[.int .i64 a0_0, .int .i64 a0_1] 67 (0, 0))) ∧ Aside0 (Below w.heap.size w w'))
 case atStart => exact ⟨(y392), (0), rs_, H', ⟨Nat.le_refl _⟩, ⟨kr_ HO394.out⟩, ⟨bk_ BK391.out⟩, ⟨bl1_ HB.out GE391.out⟩⟩
 case round =>
  clear H'
  try clear p2
  try clear c4
  try clear p6
  try clear hcz5_0
  try clear hcz5_1
  try clear hfz5_0
  try clear hfz5_1
  obtain ⟨x8_1, x27_1, rfl, HA, HK1, HO_8, BK391, HB⟩ := hrel
  cases gk with
  | zero => exact absurd HA.out (by simp [impl_grid_regions.l0])
  | succ k1 =>
   have H := HA.out
   clear HA
   simp only [impl_grid_regions.l0] at H
   by_cases c8 : x27_1 < (wrap64 ((wrap64 (a0_0 * a0_1)) + 1))
   ·rw [if_pos c8] at H
    have c8b0 : decide (x27_1 < (wrap64 ((wrap64 (a0_0 * a0_1)) + 1))) = true := decide_eq_true c8
    clear c8
    by_cases c9 : x8_1.length < 17592186044416
    ·rw [if_pos c9] at H
     have LMc9 := Aside0.mk c9
     clear c9
     obtain ⟨y395, hy395⟩ : ∃ y_ : List Int, y_ = (x8_1 ++ [x27_1]) := ⟨_, rfl⟩
     replace H : (impl_grid_regions.l0 k1 a1 a2 (wrap64 (a0_0 * a0_1)) y395 (wrap64 ((wrap64 (a0_0 * a0_1)) + 1)) (wrap64 (x27_1 + 1)) a0_0 a0_1) = some r := by first | (rw [hy395]; with_reducible exact H) | (have H2_ := (Option.bind_some _ _).symm.trans H; rw [hy395]; with_reducible exact H2_) | (have H2_ := (Option.bind_some _ _).symm.trans H; with_reducible exact H2_) | with_reducible exact H | (rw [hy395]; exact H) | exact H
     have Ny395 := Aside0.mk hy395
     clear hy395
     have H' := Aside0.mk H
     clear H
     go_wp2_with (first | ((with_reducible refine gate_builtin (b := .append) (xs := #[.tmp 30, .tmp 32]) rfl ?_); (try (refine gate_guard (by rfl) ?_; dsimp only)); at_builtin; refine Kd.R_append (Kd.int .i64) (w0 := w) w.heap.size rfl (.tmp 30) (.tmp 32) 22 3 (.int .i64 0) 8 rfl Try.underlying22 info3 rfl (by decide) (by omega) u8 x8_1 x27_1 [.int .i64 x27_1] (fun _ => True) (fun _ => False) rfl rfl ?aP (fun _ hk => hk.elim) ?aF ?aO ?aB ?aS ?aL ?_; (case aP => exact rfl); (case aB => exact (bl1_ HB.out GE391.out)); (case aF => exact (fun _ _ => trivial)); (case aO => exact (kr_ HO_8.out)); (case aS => exact (below_size (bl1_ HB.out GE391.out))); (case aL => have := LMc9.out; omega); intro v396 w10 ho hb hg hat; rw [← Ny395.out] at ho; have n0_ := Aside0.mk (blk_grown (g := gb391) (o := .cells #[.int .i64 a0_0, .int .i64 a0_1] 67 (0, 0)) (bk_ BK391.out) hg (Kd.R_ne HO_8.out BK391.out (by decide))); have n1_ := Aside0.mk (hb); have n2_ := Aside0.mk (ho); clear BK391; clear HB; clear HO_8; have BK391 := n0_; have HB := n1_; have HO397 := n2_; clear n0_ n1_ n2_; clear ho hb hg hat))
     go_roundg k1
     case measure => have := HK1.out; omega
     case rel => exact ⟨(y395), (wrap64 (x27_1 + 1)), rs_, H', ⟨by have := HK1.out; omega⟩, ⟨kr_ HO397.out⟩, ⟨bk_ BK391.out⟩, ⟨bl1_ HB.out GE391.out⟩⟩
    ·rw [if_neg c9] at H
     exact absurd H (by simp)
   ·rw [if_neg c8] at H
    have c8b0 : decide (x27_1 < (wrap64 ((wrap64 (a0_0 * a0_1)) + 1))) = false := decide_eq_false c8
    clear c8
    have H' := Aside0.mk H
    clear H
    go_wp2
    go_loopg [37] k1 (fun kq v37 w' => ∃ (x8_2 : List Int) (x37_2 : Int), v37 = .int .i64 x37_2 ∧ Aside0 (impl_grid_regions.l1 kq a1 a2 (wrap64 (a0_0 * a0_1)) x8_2 (wrap64 ((wrap64 (a0_0 * a0_1)) + 1)) x37_2 a0_0 a0_1 = some r) ∧ Aside0 (kq ≤ k1) ∧ Aside0 (Kd.R (Kd.int .i64) 3 w' w.heap.size (fun _ => True) u8 x8_2) ∧ Aside0 (w'.heap[gb391]? = some (.cells #[.int .i64 a0_0, .int .i64 a0_1] 67 (0, 0))) ∧ Aside0 (Below w.heap.size w w'))
    case atStart => exact ⟨(x8_1), (0), rs_, H', ⟨Nat.le_refl _⟩, ⟨kr_ HO_8.out⟩, ⟨bk_ BK391.out⟩, ⟨bl1_ HB.out GE391.out⟩⟩
    case round =>
     clear H'
     try clear p2
     try clear c4
     try clear p6
     try clear c8
     try clear c8b0
     try clear c9
     try clear hcz5_0
     try clear hcz5_1
     try clear hfz5_0
     try clear hfz5_1
     try clear p2
     try clear p6
     obtain ⟨x8_2, x37_2, rfl, HA, HK2, HO_8, BK391, HB⟩ := hrel
     cases gk with
     | zero => exact absurd HA.out (by simp [impl_grid_regions.l1])
     | succ k2 =>
      have H := HA.out
      clear HA
      simp only [impl_grid_regions.l1] at H
      by_cases c11 : x37_2 < (wrap64 ((wrap64 (a0_0 * a0_1)) + 1))
      ·rw [if_pos c11] at H
       have c11b0 : decide (x37_2 < (wrap64 ((wrap64 (a0_0 * a0_1)) + 1))) = true := decide_eq_true c11
       clear c11
       replace H := Option.bind_eq_some_iff.mp H
       obtain ⟨t398, A120, H⟩ := H
       replace H : ((impl_grid_uprights.f a0_0 a0_1).bind fun t399 => (impl_grid_regions.l2 k2 a1 a2 (wrap64 (a0_0 * a0_1)) x8_2 (wrap64 ((wrap64 (a0_0 * a0_1)) + 1)) x37_2 (wrap64 (t398 + t399)) 0 a0_0 a0_1)) = some r := H
       have A12 := Aside0.mk A120
       clear A120
       replace H := Option.bind_eq_some_iff.mp H
       obtain ⟨t399, A130, H⟩ := H
       replace H : (impl_grid_regions.l2 k2 a1 a2 (wrap64 (a0_0 * a0_1)) x8_2 (wrap64 ((wrap64 (a0_0 * a0_1)) + 1)) x37_2 (wrap64 (t398 + t399)) 0 a0_0 a0_1) = some r := H
       have A13 := Aside0.mk A130
       clear A130
       have H' := Aside0.mk H
       clear H
       try go_wp2
       have n0_ := Aside0.mk (Kd.R_drew HO_8.out)
       have n1_ := Aside0.mk (blk_drew BK391.out)
       have n2_ := Aside0.mk (below_drew1 HB.out)
       clear HO_8
       clear BK391
       clear HB
       have HO_8 := n0_
       have BK391 := n1_
       have HB := n2_
       clear n0_ n1_ n2_
       refine start_ (n := 6) (S := fun w' => w'.cell? ⟨gb391, 0, none⟩ = some (.int .i64 a0_0) ∧ w'.cell? ⟨gb391, 1, none⟩ = some (.int .i64 a0_1)) (ds := []) #[Ff, Ff, Ff, Ff, Ff, Ff] (by kernel_rfl) rfl rfl ⟨(blk_cell BK391.out 0).trans rfl, (blk_cell BK391.out 1).trans rfl⟩ (fun hHeld => ?_)
       generalize wr.drew = w14 at HO_8 BK391 HB hHeld ⊢
       refine pure_ (i := 5) (N := some 44) (v := ?_) (a' := ?_) #[Ff, Ff, Ff, Ff, Ff, Tt] rfl rfl (by kernel_rfl) (fun _ _ _ h => h) (Or.inl ⟨by rfl, ?_⟩) ?_ ?_
       rotate_left
       ·intro w'
        go_simp
        with_reducible rfl
       rotate_left
       ·simp only [Act.put, List.setIfInBounds_toArray, List.set_cons_zero, List.set_cons_succ, i64_w, i32_w]
        rfl
       refine take_ (i := 0) (N := some 39) (v := ?_) (a' := ?_) #[Tt, Ff, Ff, Ff, Ff, Tt] rfl rfl (by kernel_rfl) (fun _ _ _ h => h) (Or.inl ⟨by rfl, ?_⟩) hHeld ?_ ?_
       rotate_left
       ·rintro w' ⟨s0, s1⟩
        go_simp
        with_reducible rfl
       rotate_left
       ·simp only [Act.put, List.setIfInBounds_toArray, List.set_cons_zero, List.set_cons_succ, i64_w, i32_w]
        rfl
       refine take_ (i := 2) (N := some 41) (v := ?_) (a' := ?_) #[Tt, Ff, Tt, Ff, Ff, Tt] rfl rfl (by kernel_rfl) (fun _ _ _ h => h) (Or.inl ⟨by rfl, ?_⟩) hHeld ?_ ?_
       rotate_left
       ·rintro w' ⟨s0, s1⟩
        go_simp
        with_reducible rfl
       rotate_left
       ·simp only [Act.put, List.setIfInBounds_toArray, List.set_cons_zero, List.set_cons_succ, i64_w, i32_w]
        rfl
       refine one_ (i := 1) (N := some 40) #[Tt, Tt, Tt, Ff, Ff, Tt] rfl rfl (by kernel_rfl) (by decide) (fun K hK => ?_)
       refine goes_ Try.func83 (by kernel_rfl) rfl #[.agg #[.int .i64 a0_0, .int .i64 a0_1]] (by rfl) rfl rfl ob_ ?_
       with_reducible refine (impl_grid_levels.calls a0_0 a0_1 t398 _ A12.out).mono ?_
       rintro e w15 ⟨rfl, hb⟩
       refine ⟨_, rfl, ?_⟩
       have n0_ := Aside0.mk (Kd.R_below (kr_ HO_8.out) hb)
       have n1_ := Aside0.mk (bb_ BK391.out hb)
       have n2_ := Aside0.mk (below_step (bl1_ HB.out GE391.out) hb)
       clear HO_8
       clear BK391
       clear HB
       have HO_8 := n0_
       have BK391 := n1_
       have HB := n2_
       clear n0_ n1_ n2_
       (try clear hb)
       (try clear hb2)
       (try clear hk)
       (try clear hi)
       refine hK.out _ _ ⟨(blk_cell BK391.out 0).trans rfl, (blk_cell BK391.out 1).trans rfl⟩ (fun hHeld => ?_)
       clear hK K
       refine norm_ (a' := _) ap_ ?_
       refine one_ (i := 3) (N := some 42) #[Tt, Tt, Tt, Tt, Ff, Tt] rfl rfl (by kernel_rfl) (by decide) (fun K hK => ?_)
       refine goes_ Try.func84 (by kernel_rfl) rfl #[.agg #[.int .i64 a0_0, .int .i64 a0_1]] (by rfl) rfl rfl ob_ ?_
       with_reducible refine (impl_grid_uprights.calls a0_0 a0_1 t399 _ A13.out).mono ?_
       rintro e w16 ⟨rfl, hb⟩
       refine ⟨_, rfl, ?_⟩
       have n0_ := Aside0.mk (Kd.R_below (kr_ HO_8.out) hb)
       have n1_ := Aside0.mk (bb_ BK391.out hb)
       have n2_ := Aside0.mk (below_step (bl1_ HB.out GE391.out) hb)
       clear HO_8
       clear BK391
       clear HB
       have HO_8 := n0_
       have BK391 := n1_
       have HB := n2_
       clear n0_ n1_ n2_
       (try clear hb)
       (try clear hb2)
       (try clear hk)
       (try clear hi)
       refine hK.out _ _ ⟨(blk_cell BK391.out 0).trans rfl, (blk_cell BK391.out 1).trans rfl⟩ (fun hHeld => ?_)
       clear hK K
       refine norm_ (a' := _) ap_ ?_
       refine pure_ (i := 4) (N := some 43) (v := ?_) (a' := ?_) #[Tt, Tt, Tt, Tt, Tt, Tt] rfl rfl (by kernel_rfl) (fun _ _ _ h => h) (Or.inl ⟨by rfl, ?_⟩) ?_ ?_
       rotate_left
       ·intro w'
        go_simp
        with_reducible rfl
       rotate_left
       ·simp only [Act.put, List.setIfInBounds_toArray, List.set_cons_zero, List.set_cons_succ, i64_w, i32_w]
        rfl
       refine done_ (by kernel_rfl) ?_
       try go_wp2
       go_loopg [44] k2 (fun kq v44 w' => ∃ (x8_3 : List Int) (x44_3 : Int), v44 = .int .i64 x44_3 ∧ Aside0 (impl_grid_regions.l2 kq a1 a2 (wrap64 (a0_0 * a0_1)) x8_3 (wrap64 ((wrap64 (a0_0 * a0_1)) + 1)) x37_2 (wrap64 (t398 + t399)) x44_3 a0_0 a0_1 = some r) ∧ Aside0 (kq ≤ k2) ∧ Aside0 (Kd.R (Kd.int .i64) 3 w' w.heap.size (fun _ => True) u8 x8_3) ∧ Aside0 (w'.heap[gb391]? = some (.cells #[.int .i64 a0_0, .int .i64 a0_1] 67 (0, 0))) ∧ Aside0 (Below w.heap.size w w'))
       case atStart => exact ⟨(x8_2), (0), rs_, H', ⟨Nat.le_refl _⟩, ⟨kr_ HO_8.out⟩, ⟨bk_ BK391.out⟩, ⟨bl1_ HB.out GE391.out⟩⟩
       case round =>
        clear H'
        try clear c1
        try clear p2
        try clear c4
        try clear p6
        try clear c8
        try clear c8b0
        try clear c9
        try clear c11
        try clear c11b0
        try clear hcz5_0
        try clear hcz5_1
        try clear hfz5_0
        try clear hfz5_1
        try clear p2
        try clear p6
        obtain ⟨x8_3, x44_3, rfl, HA, HK3, HO_8, BK391, HB⟩ := hrel
        cases gk with
        | zero => exact absurd HA.out (by simp [impl_grid_regions.l2])
        | succ k3 =>
         have H := HA.out
         clear HA
         simp only [impl_grid_regions.l2] at H
         by_cases c17 : x44_3 < (wrap64 (t398 + t399))
         ·rw [if_pos c17] at H
          have c17b0 : decide (x44_3 < (wrap64 (t398 + t399))) = true := decide_eq_true c17
          clear c17
          replace H := Option.bind_eq_some_iff.mp H
          obtain ⟨⟨t400, t401⟩, A180, H⟩ := H
          replace H : (if t400 < 0 then (impl_grid_regions.j3 k3 a1 a2 (wrap64 (a0_0 * a0_1)) x8_3 x44_3 (wrap64 (a0_0 * a0_1)) t401 (wrap64 ((wrap64 (a0_0 * a0_1)) + 1)) x37_2 (wrap64 (t398 + t399)) x44_3 a0_0 a0_1) else (impl_grid_regions.j3 k3 a1 a2 (wrap64 (a0_0 * a0_1)) x8_3 x44_3 t400 t401 (wrap64 ((wrap64 (a0_0 * a0_1)) + 1)) x37_2 (wrap64 (t398 + t399)) x44_3 a0_0 a0_1)) = some r := H
          have A18 := Aside0.mk A180
          clear A180
          have HC19 := Aside0.mk H
          clear H
          have hcz20_0 : wr.cell? ⟨gb391, 0, none⟩ = some (.int .i64 a0_0) := (blk_cell BK391.out 0).trans rfl
          have hcz20_1 : wr.cell? ⟨gb391, 1, none⟩ = some (.int .i64 a0_1) := (blk_cell BK391.out 1).trans rfl
          have hfz20_0 := blk_frozen BK391.out 0
          have hfz20_1 := blk_frozen BK391.out 1
          go_upto_if 54 with (first | ((with_reducible refine gate_callee (f := 97) rfl ?_); refine goesL_ (some 50) rfl rfl Try.func97 (by kernel_rfl) rfl #[.agg #[.int .i64 a0_0, .int .i64 a0_1], .int .i64 x44_3] rfl ob_ ?_; (with_reducible refine (impl_grid_beside.calls a0_0 a0_1 x44_3 t400 t401 _ A18.out).mono ?_); rintro e w21 ⟨rfl, hb⟩; refine ⟨_, rfl, ?_⟩; have n0_ := Aside0.mk (Kd.R_below (kr_ HO_8.out) hb); have n1_ := Aside0.mk (bb_ BK391.out hb); have n2_ := Aside0.mk (below_step (bl1_ HB.out GE391.out) hb); clear HO_8; clear BK391; clear HB; have HO_8 := n0_; have BK391 := n1_; have HB := n2_; clear n0_ n1_ n2_; (try clear hb); (try clear hb2); (try clear hk); (try clear hi)))
          (try simp only [Act.put, List.setIfInBounds_toArray, List.set_cons_zero, List.set_cons_succ])
          go_cut [11] (fun v11 wc => ∃ (kq : Nat) (x11_18 : Int), v11 = .int .i64 x11_18 ∧ Aside0 (impl_grid_regions.j3 kq a1 a2 (wrap64 (a0_0 * a0_1)) x8_3 x44_3 x11_18 t401 (wrap64 ((wrap64 (a0_0 * a0_1)) + 1)) x37_2 (wrap64 (t398 + t399)) x44_3 a0_0 a0_1 = some r) ∧ Aside0 (kq ≤ k3) ∧ Aside0 (Kd.R (Kd.int .i64) 3 wc w.heap.size (fun _ => True) u8 x8_3) ∧ Aside0 (wc.heap[gb391]? = some (.cells #[.int .i64 a0_0, .int .i64 a0_1] 67 (0, 0))) ∧ Aside0 (Below w.heap.size w wc))
          case first =>
           have H := HC19.out
           clear HC19
           by_cases c22 : t400 < 0
           ·rw [if_pos c22] at H
            have c22b0 : decide (t400 < 0) = true := decide_eq_true c22
            clear c22
            (first | rw [c22b0] | (simp only [i64_w, i32_w]; rw [c22b0]) | skip)
            have H' := Aside0.mk H
            clear H
            go_wp2
            go_meet
            case rel => exact ⟨_, ((wrap64 (a0_0 * a0_1))), rs_, H', ⟨by have := HK1.out; have := HK2.out; have := HK3.out; first | omega | exact Nat.le_refl _⟩, ⟨kr_ HO_8.out⟩, ⟨bk_ BK391.out⟩, ⟨bl1_ HB.out GE391.out⟩⟩
           ·rw [if_neg c22] at H
            have c22b0 : decide (t400 < 0) = false := decide_eq_false c22
            clear c22
            (first | rw [c22b0] | (simp only [i64_w, i32_w]; rw [c22b0]) | skip)
            have H' := Aside0.mk H
            clear H
            go_wp2
            go_meet
            case rel => exact ⟨_, (t400), rs_, H', ⟨by have := HK1.out; have := HK2.out; have := HK3.out; first | omega | exact Nat.le_refl _⟩, ⟨kr_ HO_8.out⟩, ⟨bk_ BK391.out⟩, ⟨bl1_ HB.out GE391.out⟩⟩
          case rest =>
           clear HC19
           try clear c1
           try clear c2
           try clear p2
           try clear c4
           try clear p6
           try clear c8
           try clear c8b0
           try clear c9
           try clear c11
           try clear c11b0
           try clear c17
           try clear c17b0
           try clear c22
           try clear c22b0
           try clear hcz20_0
           try clear hcz20_1
           try clear hcz5_0
           try clear hcz5_1
           try clear hfz20_0
           try clear hfz20_1
           try clear hfz5_0
           try clear hfz5_1
           try clear p2
           try clear p6
           obtain ⟨kq, x11_18, rfl, HA, HJ18, HO_8, BK391, HB⟩ := hcut
           cases kq with
           | zero => exact absurd HA.out (by simp [impl_grid_regions.j3])
           | succ kj18 =>
            have H := HA.out
            clear HA
            simp only [impl_grid_regions.j3] at H
            by_cases c23 : t401 < 0
            ·rw [if_pos c23] at H
             have c23b0 : decide (t401 < 0) = true := decide_eq_true c23
             clear c23
             by_cases c24 : 0 ≤ x44_3
             ·rw [if_pos c24] at H
              have c24b0 := eq_true c24
              have c24b1 : decide (0 ≤ x44_3) = true := decide_eq_true c24
              clear c24
              obtain ⟨ji25, hji25⟩ : ∃ j_ : Int, (shr .u64 a1 x44_3) = j_ := ⟨_, rfl⟩
              replace H : (if (Go.bits .and .u64 (ji25) 1) = 1 then (impl_grid_regions.l2 kj18 a1 a2 (wrap64 (a0_0 * a0_1)) x8_3 (wrap64 ((wrap64 (a0_0 * a0_1)) + 1)) x37_2 (wrap64 (t398 + t399)) (wrap64 (x44_3 + 1)) a0_0 a0_1) else (if a2 = true then (if 0 ≤ x11_18 then (if x11_18 < (x8_3.length : Int) then (if 0 ≤ (wrap64 (a0_0 * a0_1)) then (if (wrap64 (a0_0 * a0_1)) < (x8_3.length : Int) then (impl_grid_regions.l2 kj18 a1 a2 (wrap64 (a0_0 * a0_1)) ((x8_3.set (x11_18 : Int).toNat (mn (rd x8_3 x11_18) (rd x8_3 (wrap64 (a0_0 * a0_1))))).set ((wrap64 (a0_0 * a0_1)) : Int).toNat (mn (rd x8_3 x11_18) (rd x8_3 (wrap64 (a0_0 * a0_1))))) (wrap64 ((wrap64 (a0_0 * a0_1)) + 1)) x37_2 (wrap64 (t398 + t399)) (wrap64 (x44_3 + 1)) a0_0 a0_1) else (none)) else (none)) else (none)) else (none)) else (if (mx x11_18 (wrap64 (a0_0 * a0_1))) = (wrap64 (a0_0 * a0_1)) then (impl_grid_regions.l2 kj18 a1 a2 (wrap64 (a0_0 * a0_1)) x8_3 (wrap64 ((wrap64 (a0_0 * a0_1)) + 1)) x37_2 (wrap64 (t398 + t399)) (wrap64 (x44_3 + 1)) a0_0 a0_1) else (if 0 ≤ x11_18 then (if x11_18 < (x8_3.length : Int) then (if 0 ≤ (wrap64 (a0_0 * a0_1)) then (if (wrap64 (a0_0 * a0_1)) < (x8_3.length : Int) then (impl_grid_regions.l2 kj18 a1 a2 (wrap64 (a0_0 * a0_1)) ((x8_3.set (x11_18 : Int).toNat (mn (rd x8_3 x11_18) (rd x8_3 (wrap64 (a0_0 * a0_1))))).set ((wrap64 (a0_0 * a0_1)) : Int).toNat (mn (rd x8_3 x11_18) (rd x8_3 (wrap64 (a0_0 * a0_1))))) (wrap64 ((wrap64 (a0_0 * a0_1)) + 1)) x37_2 (wrap64 (t398 + t399)) (wrap64 (x44_3 + 1)) a0_0 a0_1) else (none)) else (none)) else (none)) else (none))))) = some r := by first | (rw [hji25] at H; exact H) | (simp only [hji25] at H ⊢; exact H)
              have hji25_ : (a1 / 2 ^ min x44_3.toNat 64) = ji25 := hji25
              have hji25z : x44_3 ≤ 64 → (a1 / 2 ^ x44_3.toNat) = ji25 := shr_small hji25
              by_cases c26 : (Go.bits .and .u64 (ji25) 1) = 1
              ·rw [if_pos c26] at H
               have c26b0 : ((Go.bits .and .u64 (ji25) 1) == 1) = true := beq_iff_eq.mpr c26
               have c26b1 : ((Go.bits .and .u64 (ji25) 1) != 1) = false := bne_eq_false_iff_eq.mpr c26
               clear c26
               have H' := Aside0.mk H
               clear H
               go_wp2
               go_roundg kj18
               case measure => have := HK1.out; have := HK2.out; have := HK3.out; have := HJ18.out; omega
               case rel => exact ⟨(x8_3), (wrap64 (x44_3 + 1)), rs_, H', ⟨by have := HK1.out; have := HK2.out; have := HK3.out; have := HJ18.out; omega⟩, ⟨kr_ HO_8.out⟩, ⟨bk_ BK391.out⟩, ⟨bl1_ HB.out GE391.out⟩⟩
              ·rw [if_neg c26] at H
               have c26b0 : ((Go.bits .and .u64 (ji25) 1) == 1) = false := beq_eq_false_iff_ne.mpr c26
               have c26b1 : ((Go.bits .and .u64 (ji25) 1) != 1) = true := bne_iff_ne.mpr c26
               by_cases c27 : a2 = true
               ·subst c27
                have H1 : (if 0 ≤ x11_18 then (if x11_18 < (x8_3.length : Int) then (if 0 ≤ (wrap64 (a0_0 * a0_1)) then (if (wrap64 (a0_0 * a0_1)) < (x8_3.length : Int) then (impl_grid_regions.l2 kj18 a1 true (wrap64 (a0_0 * a0_1)) ((x8_3.set (x11_18 : Int).toNat (mn (rd x8_3 x11_18) (rd x8_3 (wrap64 (a0_0 * a0_1))))).set ((wrap64 (a0_0 * a0_1)) : Int).toNat (mn (rd x8_3 x11_18) (rd x8_3 (wrap64 (a0_0 * a0_1))))) (wrap64 ((wrap64 (a0_0 * a0_1)) + 1)) x37_2 (wrap64 (t398 + t399)) (wrap64 (x44_3 + 1)) a0_0 a0_1) else (none)) else (none)) else (none)) else (none)) = some r := by rw [if_pos rfl] at H; exact H
                clear H
                have H := H1
                clear H1
                by_cases c28 : 0 ≤ x11_18
                ·rw [if_pos c28] at H
                 have c28b0 : decide (0 ≤ x11_18) = true := decide_eq_true c28
                 clear c28
                 by_cases c29 : x11_18 < (x8_3.length : Int)
                 ·rw [if_pos c29] at H
                  have c29b0 : decide (x11_18 < (x8_3.length : Int)) = true := decide_eq_true c29
                  clear c29
                  obtain ⟨ji30, hji30⟩ : ∃ j_ : Int, (wrap64 (a0_0 * a0_1)) = j_ := ⟨_, rfl⟩
                  replace H : (if 0 ≤ (ji30) then (if (ji30) < (x8_3.length : Int) then (impl_grid_regions.l2 kj18 a1 true (ji30) ((x8_3.set (x11_18 : Int).toNat (mn (rd x8_3 x11_18) (rd x8_3 (ji30)))).set ((ji30) : Int).toNat (mn (rd x8_3 x11_18) (rd x8_3 (ji30)))) (wrap64 ((ji30) + 1)) x37_2 (wrap64 (t398 + t399)) (wrap64 (x44_3 + 1)) a0_0 a0_1) else (none)) else (none)) = some r := by first | (rw [hji30] at H; exact H) | (simp only [hji30] at H ⊢; exact H)
                  (try rw [hji30] at c8b0)
                  (try rw [hji30] at c11b0)
                  have hji30w : (IntKind.i64.wrap (a0_0 * a0_1)) = ji30 := (i64_w _).trans hji30
                  by_cases c31 : 0 ≤ (ji30)
                  ·rw [if_pos c31] at H
                   have c31b0 : decide (0 ≤ (ji30)) = true := decide_eq_true c31
                   clear c31
                   by_cases c32 : (ji30) < (x8_3.length : Int)
                   ·rw [if_pos c32] at H
                    have c32b0 : decide ((ji30) < (x8_3.length : Int)) = true := decide_eq_true c32
                    clear c32
                    obtain ⟨ji33, hji33⟩ : ∃ j_ : Int, (mn (rd x8_3 x11_18) (rd x8_3 (ji30))) = j_ := ⟨_, rfl⟩
                    replace H : (impl_grid_regions.l2 kj18 a1 true (ji30) ((x8_3.set (x11_18 : Int).toNat (ji33)).set ((ji30) : Int).toNat (ji33)) (wrap64 ((ji30) + 1)) x37_2 (wrap64 (t398 + t399)) (wrap64 (x44_3 + 1)) a0_0 a0_1) = some r := by first | (rw [hji33] at H; exact H) | (simp only [hji33] at H ⊢; exact H)
                    have hji33_ : (if (rd x8_3 (ji30)) < (rd x8_3 x11_18) then (rd x8_3 (ji30)) else (rd x8_3 x11_18)) = ji33 := hji33
                    obtain ⟨y404, hy404⟩ : ∃ y_ : List Int, y_ = (x8_3.set (x11_18 : Int).toNat (ji33)) := ⟨_, rfl⟩
                    replace H : (impl_grid_regions.l2 kj18 a1 true (ji30) (y404.set ((ji30) : Int).toNat (ji33)) (wrap64 ((ji30) + 1)) x37_2 (wrap64 (t398 + t399)) (wrap64 (x44_3 + 1)) a0_0 a0_1) = some r := by first | (rw [hy404]; with_reducible exact H) | (have H2_ := (Option.bind_some _ _).symm.trans H; rw [hy404]; with_reducible exact H2_) | (have H2_ := (Option.bind_some _ _).symm.trans H; with_reducible exact H2_) | with_reducible exact H | (rw [hy404]; exact H) | exact H
                    have Ny404 := Aside0.mk hy404
                    clear hy404
                    obtain ⟨y405, hy405⟩ : ∃ y_ : List Int, y_ = (y404.set ((ji30) : Int).toNat (ji33)) := ⟨_, rfl⟩
                    replace H : (impl_grid_regions.l2 kj18 a1 true (ji30) y405 (wrap64 ((ji30) + 1)) x37_2 (wrap64 (t398 + t399)) (wrap64 (x44_3 + 1)) a0_0 a0_1) = some r := by first | (rw [hy405]; with_reducible exact H) | (have H2_ := (Option.bind_some _ _).symm.trans H; rw [hy405]; with_reducible exact H2_) | (have H2_ := (Option.bind_some _ _).symm.trans H; with_reducible exact H2_) | with_reducible exact H | (rw [hy405]; exact H) | exact H
                    have Ny405 := Aside0.mk hy405
                    clear hy405
                    have H' := Aside0.mk H
                    clear H
                    try go_wp2
                    have n0_ := Aside0.mk (Kd.R_drew HO_8.out)
                    have n1_ := Aside0.mk (blk_drew BK391.out)
                    have n2_ := Aside0.mk (below_drew1 HB.out)
                    clear HO_8
                    clear BK391
                    clear HB
                    have HO_8 := n0_
                    have BK391 := n1_
                    have HB := n2_
                    clear n0_ n1_ n2_
                    obtain ⟨Ao37, co37, eo37⟩ := Kd.R_slice HO_8.out
                    (first | subst eo37 | (injection eo37 with f1_ f2_ f3_; have f4_ := f1_.symm; have f5_ := f3_.symm; clear f1_ f2_ f3_; subst f4_; subst f5_))
                    have p402 : 0 ≤ (x11_18 : Int) := of_decide_eq_true as_
                    have q402 : x11_18 < (x8_3.length : Int) := of_decide_eq_true as_
                    obtain ⟨ad402, e402, hx402_0⟩ := Kd.at_int (Kd.R_reads' HO_8.out).2.2 x11_18 p402 q402
                    cases e402
                    replace p402 := eq_true p402
                    replace q402 := eq_true q402
                    have p403 : 0 ≤ ((ji30) : Int) := of_decide_eq_true as_
                    have q403 : (ji30) < (x8_3.length : Int) := of_decide_eq_true as_
                    obtain ⟨ad403, e403, hx403_0⟩ := Kd.at_int (Kd.R_reads' HO_8.out).2.2 (ji30) p403 q403
                    obtain rfl : ad402 = ad403 := (by injection e403)
                    replace p403 := eq_true p403
                    replace q403 := eq_true q403
                    refine start_ (n := 10) (S := fun w' => w'.cell? (ad402.add (x11_18).toNat) = some (.int .i64 (rd x8_3 x11_18)) ∧ w'.cell? (ad402.add ((ji30)).toNat) = some (.int .i64 (rd x8_3 (ji30)))) (ds := []) #[Ff, Ff, Ff, Ff, Ff, Ff, Ff, Ff, Ff, Ff] (by kernel_rfl) rfl rfl ⟨hx402_0, hx403_0⟩ (fun hHeld => ?_); refine with_tabW impl_grid_regions.tab19 impl_grid_regions.bits19 (fun HT_ HW_ => ?_)
                    generalize wc.drew = w36 at HO_8 BK391 HB hx402_0 hx403_0 hHeld ⊢
                    refine pZ (i := 0) (N := some 75) #[Tt, Ff, Ff, Ff, Ff, Ff, Ff, Ff, Ff, Ff] ?_
                    refine pZ (i := 1) (N := some 76) #[Tt, Tt, Ff, Ff, Ff, Ff, Ff, Ff, Ff, Ff] ?_
                    refine pZ (i := 2) (N := some 77) #[Tt, Tt, Tt, Ff, Ff, Ff, Ff, Ff, Ff, Ff] ?_
                    refine pZ (i := 4) (N := some 79) #[Tt, Tt, Tt, Ff, Tt, Ff, Ff, Ff, Ff, Ff] ?_
                    refine pZ (i := 5) (N := some 80) #[Tt, Tt, Tt, Ff, Tt, Tt, Ff, Ff, Ff, Ff] ?_
                    refine pZ (i := 6) (N := some 81) #[Tt, Tt, Tt, Ff, Tt, Tt, Tt, Ff, Ff, Ff] ?_
                    refine tZ (i := 3) (N := some 78) #[Tt, Tt, Tt, Tt, Tt, Tt, Tt, Ff, Ff, Ff] ?_
                    refine tZ (i := 7) (N := some 82) #[Tt, Tt, Tt, Tt, Tt, Tt, Tt, Tt, Ff, Ff] ?_
                    refine pZ (i := 8) (N := some 83) #[Tt, Tt, Tt, Tt, Tt, Tt, Tt, Tt, Tt, Ff] ?_
                    refine pZ (i := 9) (N := some 13) #[Tt, Tt, Tt, Tt, Tt, Tt, Tt, Tt, Tt, Tt] ?_
                    refine done_ (done_of HT_.out (by kernel_rfl)) ?_
                    have p34 : 0 ≤ (x11_18 : Int) := of_decide_eq_true as_
                    have q34 : (x11_18 : Int) < ((x8_3.length : Int) : Int) := of_decide_eq_true as_
                    obtain ⟨go34, co34, eo34, gb34, gl34, cl34, HG34⟩ := Kd.R_form HO_8.out (by omega)
                    (first | cases eo34 | (injection eo34 with ea_ en_ ec_; (first | subst ea_ | (injection ea_ with ea_; subst ea_)); subst ec_; clear en_))
                    have GB34 := Aside0.mk gb34
                    have GG34 := Aside0.mk HG34
                    clear gb34 gl34 HG34
                    (first | simp only [add_plain] at hx402_0 | skip)
                    (first | simp only [add_plain] at hx403_0 | skip)
                    obtain ⟨hx34_0, hf34_0⟩ := Kd.R_celln 0 HO_8.out (x11_18 : Int) p34 q34
                    replace p34 := eq_true p34
                    replace q34 := eq_true q34
                    obtain ⟨hy38_, hz38_⟩ := Kd.R_celln 0 HO_8.out (x11_18 : Int) (of_decide_eq_true as_) (of_decide_eq_true as_)
                    have HP38 := Kd.R_putg HO_8.out (x11_18 : Int) ji33
                    try go_wp2_with (first | ((with_reducible refine gate_store (t := 3) (p := 90) rfl ?_); refine store_event (t := 3) (p := 90) (v := ?vo_w39) (w1 := (w36.setCell ⟨go34, (x11_18 : Int).toNat, none⟩ (.int .i64 ji33))) ?hg ?ho ?hn ?hr ?_; (case ho => rfl); (case hg => rfl); (case hn => rfl); (case hr => first | (go_simp; done) | (go_simp; rfl)); intro w39 hw; have hg : w36.grownBy w39 (some go34) := (by rw [hw]; exact HP38.2); have hp_ : Kd.R (Kd.int .i64) 3 w39 w.heap.size (fun _ => True) (.slice (some ⟨go34, 0, none⟩) x8_3.length co37) y404 := (by rw [hw, Ny404.out]; exact HP38.1); clear HP38; have n0_ := Aside0.mk (hp_); have n1_ := Aside0.mk (blk_grown (g := gb391) (o := .cells #[.int .i64 a0_0, .int .i64 a0_1] 67 (0, 0)) (bk_ BK391.out) hg (Kd.R_ne HO_8.out BK391.out (by decide))); have n2_ := Aside0.mk ((by rw [hw]; exact below_set (HB.out) GB34.out : Below w.heap.size w w39)); clear HO_8; clear BK391; clear HB; have HO_8 := n0_; have BK391 := n1_; have HB := n2_; clear n0_ n1_ n2_; clear hg hw hp_; have p35 : 0 ≤ ((ji30) : Int) := of_decide_eq_true as_; have q35 : ((ji30) : Int) < ((x8_3.length : Int) : Int) := of_decide_eq_true as_; obtain ⟨hx35_0, hf35_0⟩ := Kd.R_celln 0 HO_8.out ((ji30) : Int) p35 q35; replace p35 := eq_true p35; replace q35 := eq_true q35; obtain ⟨hy40_, hz40_⟩ := Kd.R_celln 0 HO_8.out ((ji30) : Int) (of_decide_eq_true as_) (of_decide_eq_true as_); have HP40 := Kd.R_putg HO_8.out ((ji30) : Int) ji33) | ((with_reducible refine gate_store (t := 3) (p := 91) rfl ?_); refine store_event (t := 3) (p := 91) (v := ?vo_w41) (w1 := (w39.setCell ⟨go34, ((ji30) : Int).toNat, none⟩ (.int .i64 ji33))) ?hg ?ho ?hn ?hr ?_; (case ho => rfl); (case hg => rfl); (case hn => rfl); (case hr => first | (go_simp; done) | (go_simp; rfl)); intro w41 hw; have hg : w39.grownBy w41 (some go34) := (by rw [hw]; exact HP40.2); have hp_ : Kd.R (Kd.int .i64) 3 w41 w.heap.size (fun _ => True) (.slice (some ⟨go34, 0, none⟩) x8_3.length co37) y405 := (by rw [hw, Ny405.out]; exact HP40.1); clear HP40; have n0_ := Aside0.mk (hp_); have n1_ := Aside0.mk (blk_grown (g := gb391) (o := .cells #[.int .i64 a0_0, .int .i64 a0_1] 67 (0, 0)) (bk_ BK391.out) hg (Kd.R_ne HO_8.out BK391.out (by decide))); have n2_ := Aside0.mk ((by rw [hw]; exact below_set (HB.out) GB34.out : Below w.heap.size w w41)); clear HO_8; clear BK391; clear HB; have HO_8 := n0_; have BK391 := n1_; have HB := n2_; clear n0_ n1_ n2_; clear hg hw hp_))
                    (try subst hji30)
                    go_roundg kj18
                    case measure => have := HK1.out; have := HK2.out; have := HK3.out; have := HJ18.out; omega
                    case rel => exact ⟨(y405), (wrap64 (x44_3 + 1)), rs_, H', ⟨by have := HK1.out; have := HK2.out; have := HK3.out; have := HJ18.out; omega⟩, ⟨kr_ HO_8.out⟩, ⟨bk_ BK391.out⟩, ⟨bl1_ HB.out GE391.out⟩⟩
                   ·rw [if_neg c32] at H
                    exact absurd H (by simp)
                  ·rw [if_neg c31] at H
                   exact absurd H (by simp)
                 ·rw [if_neg c29] at H
                  exact absurd H (by simp)
                ·rw [if_neg c28] at H
                 exact absurd H (by simp)
               ·replace c27 := Bool.eq_false_iff.mpr c27
                subst c27
                have H1 : (if (mx x11_18 (wrap64 (a0_0 * a0_1))) = (wrap64 (a0_0 * a0_1)) then (impl_grid_regions.l2 kj18 a1 false (wrap64 (a0_0 * a0_1)) x8_3 (wrap64 ((wrap64 (a0_0 * a0_1)) + 1)) x37_2 (wrap64 (t398 + t399)) (wrap64 (x44_3 + 1)) a0_0 a0_1) else (if 0 ≤ x11_18 then (if x11_18 < (x8_3.length : Int) then (if 0 ≤ (wrap64 (a0_0 * a0_1)) then (if (wrap64 (a0_0 * a0_1)) < (x8_3.length : Int) then (impl_grid_regions.l2 kj18 a1 false (wrap64 (a0_0 * a0_1)) ((x8_3.set (x11_18 : Int).toNat (mn (rd x8_3 x11_18) (rd x8_3 (wrap64 (a0_0 * a0_1))))).set ((wrap64 (a0_0 * a0_1)) : Int).toNat (mn (rd x8_3 x11_18) (rd x8_3 (wrap64 (a0_0 * a0_1))))) (wrap64 ((wrap64 (a0_0 * a0_1)) + 1)) x37_2 (wrap64 (t398 + t399)) (wrap64 (x44_3 + 1)) a0_0 a0_1) else (none)) else (none)) else (none)) else (none))) = some r := by rw [if_neg (show ¬ (false = true) by decide)] at H; exact H
                clear H
                have H := H1
                clear H1
                obtain ⟨ji42, hji42⟩ : ∃ j_ : Int, (mx x11_18 (wrap64 (a0_0 * a0_1))) = j_ := ⟨_, rfl⟩
                replace H : (if (ji42) = (wrap64 (a0_0 * a0_1)) then (impl_grid_regions.l2 kj18 a1 false (wrap64 (a0_0 * a0_1)) x8_3 (wrap64 ((wrap64 (a0_0 * a0_1)) + 1)) x37_2 (wrap64 (t398 + t399)) (wrap64 (x44_3 + 1)) a0_0 a0_1) else (if 0 ≤ x11_18 then (if x11_18 < (x8_3.length : Int) then (if 0 ≤ (wrap64 (a0_0 * a0_1)) then (if (wrap64 (a0_0 * a0_1)) < (x8_3.length : Int) then (impl_grid_regions.l2 kj18 a1 false (wrap64 (a0_0 * a0_1)) ((x8_3.set (x11_18 : Int).toNat (mn (rd x8_3 x11_18) (rd x8_3 (wrap64 (a0_0 * a0_1))))).set ((wrap64 (a0_0 * a0_1)) : Int).toNat (mn (rd x8_3 x11_18) (rd x8_3 (wrap64 (a0_0 * a0_1))))) (wrap64 ((wrap64 (a0_0 * a0_1)) + 1)) x37_2 (wrap64 (t398 + t399)) (wrap64 (x44_3 + 1)) a0_0 a0_1) else (none)) else (none)) else (none)) else (none))) = some r := by first | (rw [hji42] at H; exact H) | (simp only [hji42] at H ⊢; exact H)
                have hji42_ : (if x11_18 < (wrap64 (a0_0 * a0_1)) then (wrap64 (a0_0 * a0_1)) else x11_18) = ji42 := hji42
                by_cases c43 : (ji42) = (wrap64 (a0_0 * a0_1))
                ·rw [if_pos c43] at H
                 have c43b0 : ((ji42) == (wrap64 (a0_0 * a0_1))) = true := beq_iff_eq.mpr c43
                 have c43b1 : ((ji42) != (wrap64 (a0_0 * a0_1))) = false := bne_eq_false_iff_eq.mpr c43
                 clear c43
                 have H' := Aside0.mk H
                 clear H
                 go_wp2
                 go_roundg kj18
                 case measure => have := HK1.out; have := HK2.out; have := HK3.out; have := HJ18.out; omega
                 case rel => exact ⟨(x8_3), (wrap64 (x44_3 + 1)), rs_, H', ⟨by have := HK1.out; have := HK2.out; have := HK3.out; have := HJ18.out; omega⟩, ⟨kr_ HO_8.out⟩, ⟨bk_ BK391.out⟩, ⟨bl1_ HB.out GE391.out⟩⟩
                ·rw [if_neg c43] at H
                 have c43b0 : ((ji42) == (wrap64 (a0_0 * a0_1))) = false := beq_eq_false_iff_ne.mpr c43
                 have c43b1 : ((ji42) != (wrap64 (a0_0 * a0_1))) = true := bne_iff_ne.mpr c43
                 by_cases c44 : 0 ≤ x11_18
                 ·rw [if_pos c44] at H
                  have c44b0 : decide (0 ≤ x11_18) = true := decide_eq_true c44
                  clear c44
                  by_cases c45 : x11_18 < (x8_3.length : Int)
                  ·rw [if_pos c45] at H
                   have c45b0 : decide (x11_18 < (x8_3.length : Int)) = true := decide_eq_true c45
                   clear c45
                   obtain ⟨ji46, hji46⟩ : ∃ j_ : Int, (wrap64 (a0_0 * a0_1)) = j_ := ⟨_, rfl⟩
                   replace H : (if 0 ≤ (ji46) then (if (ji46) < (x8_3.length : Int) then (impl_grid_regions.l2 kj18 a1 false (ji46) ((x8_3.set (x11_18 : Int).toNat (mn (rd x8_3 x11_18) (rd x8_3 (ji46)))).set ((ji46) : Int).toNat (mn (rd x8_3 x11_18) (rd x8_3 (ji46)))) (wrap64 ((ji46) + 1)) x37_2 (wrap64 (t398 + t399)) (wrap64 (x44_3 + 1)) a0_0 a0_1) else (none)) else (none)) = some r := by first | (rw [hji46] at H; exact H) | (simp only [hji46] at H ⊢; exact H)
                   (try rw [hji46] at c8b0)
                   (try rw [hji46] at c11b0)
                   (try rw [hji46] at c43b0)
                   (try rw [hji46] at c43b1)
                   have hji46w : (IntKind.i64.wrap (a0_0 * a0_1)) = ji46 := (i64_w _).trans hji46
                   by_cases c47 : 0 ≤ (ji46)
                   ·rw [if_pos c47] at H
                    have c47b0 : decide (0 ≤ (ji46)) = true := decide_eq_true c47
                    clear c47
                    by_cases c48 : (ji46) < (x8_3.length : Int)
                    ·rw [if_pos c48] at H
                     have c48b0 : decide ((ji46) < (x8_3.length : Int)) = true := decide_eq_true c48
                     clear c48
                     obtain ⟨ji49, hji49⟩ : ∃ j_ : Int, (mn (rd x8_3 x11_18) (rd x8_3 (ji46))) = j_ := ⟨_, rfl⟩
                     replace H : (impl_grid_regions.l2 kj18 a1 false (ji46) ((x8_3.set (x11_18 : Int).toNat (ji49)).set ((ji46) : Int).toNat (ji49)) (wrap64 ((ji46) + 1)) x37_2 (wrap64 (t398 + t399)) (wrap64 (x44_3 + 1)) a0_0 a0_1) = some r := by first | (rw [hji49] at H; exact H) | (simp only [hji49] at H ⊢; exact H)
                     have hji49_ : (if (rd x8_3 (ji46)) < (rd x8_3 x11_18) then (rd x8_3 (ji46)) else (rd x8_3 x11_18)) = ji49 := hji49
                     obtain ⟨y408, hy408⟩ : ∃ y_ : List Int, y_ = (x8_3.set (x11_18 : Int).toNat (ji49)) := ⟨_, rfl⟩
                     replace H : (impl_grid_regions.l2 kj18 a1 false (ji46) (y408.set ((ji46) : Int).toNat (ji49)) (wrap64 ((ji46) + 1)) x37_2 (wrap64 (t398 + t399)) (wrap64 (x44_3 + 1)) a0_0 a0_1) = some r := by first | (rw [hy408]; with_reducible exact H) | (have H2_ := (Option.bind_some _ _).symm.trans H; rw [hy408]; with_reducible exact H2_) | (have H2_ := (Option.bind_some _ _).symm.trans H; with_reducible exact H2_) | with_reducible exact H | (rw [hy408]; exact H) | exact H
                     have Ny408 := Aside0.mk hy408
                     clear hy408
                     obtain ⟨y409, hy409⟩ : ∃ y_ : List Int, y_ = (y408.set ((ji46) : Int).toNat (ji49)) := ⟨_, rfl⟩
                     replace H : (impl_grid_regions.l2 kj18 a1 false (ji46) y409 (wrap64 ((ji46) + 1)) x37_2 (wrap64 (t398 + t399)) (wrap64 (x44_3 + 1)) a0_0 a0_1) = some r := by first | (rw [hy409]; with_reducible exact H) | (have H2_ := (Option.bind_some _ _).symm.trans H; rw [hy409]; with_reducible exact H2_) | (have H2_ := (Option.bind_some _ _).symm.trans H; with_reducible exact H2_) | with_reducible exact H | (rw [hy409]; exact H) | exact H
                     have Ny409 := Aside0.mk hy409
                     clear hy409
                     have H' := Aside0.mk H
                     clear H
                     try go_wp2
                     have n0_ := Aside0.mk (Kd.R_drew HO_8.out)
                     have n1_ := Aside0.mk (blk_drew BK391.out)
                     have n2_ := Aside0.mk (below_drew1 HB.out)
                     clear HO_8
                     clear BK391
                     clear HB
                     have HO_8 := n0_
                     have BK391 := n1_
                     have HB := n2_
                     clear n0_ n1_ n2_
                     obtain ⟨Ao53, co53, eo53⟩ := Kd.R_slice HO_8.out
                     (first | subst eo53 | (injection eo53 with f1_ f2_ f3_; have f4_ := f1_.symm; have f5_ := f3_.symm; clear f1_ f2_ f3_; subst f4_; subst f5_))
                     have p406 : 0 ≤ (x11_18 : Int) := of_decide_eq_true as_
                     have q406 : x11_18 < (x8_3.length : Int) := of_decide_eq_true as_
                     obtain ⟨ad406, e406, hx406_0⟩ := Kd.at_int (Kd.R_reads' HO_8.out).2.2 x11_18 p406 q406
                     cases e406
                     replace p406 := eq_true p406
                     replace q406 := eq_true q406
                     have p407 : 0 ≤ ((ji46) : Int) := of_decide_eq_true as_
                     have q407 : (ji46) < (x8_3.length : Int) := of_decide_eq_true as_
                     obtain ⟨ad407, e407, hx407_0⟩ := Kd.at_int (Kd.R_reads' HO_8.out).2.2 (ji46) p407 q407
                     obtain rfl : ad406 = ad407 := (by injection e407)
                     replace p407 := eq_true p407
                     replace q407 := eq_true q407
                     refine start_ (n := 10) (S := fun w' => w'.cell? (ad406.add (x11_18).toNat) = some (.int .i64 (rd x8_3 x11_18)) ∧ w'.cell? (ad406.add ((ji46)).toNat) = some (.int .i64 (rd x8_3 (ji46)))) (ds := []) #[Ff, Ff, Ff, Ff, Ff, Ff, Ff, Ff, Ff, Ff] (by kernel_rfl) rfl rfl ⟨hx406_0, hx407_0⟩ (fun hHeld => ?_); refine with_tabW impl_grid_regions.tab19 impl_grid_regions.bits19 (fun HT_ HW_ => ?_)
                     generalize wc.drew = w52 at HO_8 BK391 HB hx406_0 hx407_0 hHeld ⊢
                     refine pZ (i := 0) (N := some 75) #[Tt, Ff, Ff, Ff, Ff, Ff, Ff, Ff, Ff, Ff] ?_
                     refine pZ (i := 1) (N := some 76) #[Tt, Tt, Ff, Ff, Ff, Ff, Ff, Ff, Ff, Ff] ?_
                     refine pZ (i := 2) (N := some 77) #[Tt, Tt, Tt, Ff, Ff, Ff, Ff, Ff, Ff, Ff] ?_
                     refine pZ (i := 4) (N := some 79) #[Tt, Tt, Tt, Ff, Tt, Ff, Ff, Ff, Ff, Ff] ?_
                     refine pZ (i := 5) (N := some 80) #[Tt, Tt, Tt, Ff, Tt, Tt, Ff, Ff, Ff, Ff] ?_
                     refine pZ (i := 6) (N := some 81) #[Tt, Tt, Tt, Ff, Tt, Tt, Tt, Ff, Ff, Ff] ?_
                     refine tZ (i := 3) (N := some 78) #[Tt, Tt, Tt, Tt, Tt, Tt, Tt, Ff, Ff, Ff] ?_
                     refine tZ (i := 7) (N := some 82) #[Tt, Tt, Tt, Tt, Tt, Tt, Tt, Tt, Ff, Ff] ?_
                     refine pZ (i := 8) (N := some 83) #[Tt, Tt, Tt, Tt, Tt, Tt, Tt, Tt, Tt, Ff] ?_
                     refine pZ (i := 9) (N := some 13) #[Tt, Tt, Tt, Tt, Tt, Tt, Tt, Tt, Tt, Tt] ?_
                     refine done_ (done_of HT_.out (by kernel_rfl)) ?_
                     have p50 : 0 ≤ (x11_18 : Int) := of_decide_eq_true as_
                     have q50 : (x11_18 : Int) < ((x8_3.length : Int) : Int) := of_decide_eq_true as_
                     obtain ⟨go50, co50, eo50, gb50, gl50, cl50, HG50⟩ := Kd.R_form HO_8.out (by omega)
                     (first | cases eo50 | (injection eo50 with ea_ en_ ec_; (first | subst ea_ | (injection ea_ with ea_; subst ea_)); subst ec_; clear en_))
                     have GB50 := Aside0.mk gb50
                     have GG50 := Aside0.mk HG50
                     clear gb50 gl50 HG50
                     (first | simp only [add_plain] at hx406_0 | skip)
                     (first | simp only [add_plain] at hx407_0 | skip)
                     obtain ⟨hx50_0, hf50_0⟩ := Kd.R_celln 0 HO_8.out (x11_18 : Int) p50 q50
                     replace p50 := eq_true p50
                     replace q50 := eq_true q50
                     obtain ⟨hy54_, hz54_⟩ := Kd.R_celln 0 HO_8.out (x11_18 : Int) (of_decide_eq_true as_) (of_decide_eq_true as_)
                     have HP54 := Kd.R_putg HO_8.out (x11_18 : Int) ji49
                     try go_wp2_with (first | ((with_reducible refine gate_store (t := 3) (p := 90) rfl ?_); refine store_event (t := 3) (p := 90) (v := ?vo_w55) (w1 := (w52.setCell ⟨go50, (x11_18 : Int).toNat, none⟩ (.int .i64 ji49))) ?hg ?ho ?hn ?hr ?_; (case ho => rfl); (case hg => rfl); (case hn => rfl); (case hr => first | (go_simp; done) | (go_simp; rfl)); intro w55 hw; have hg : w52.grownBy w55 (some go50) := (by rw [hw]; exact HP54.2); have hp_ : Kd.R (Kd.int .i64) 3 w55 w.heap.size (fun _ => True) (.slice (some ⟨go50, 0, none⟩) x8_3.length co53) y408 := (by rw [hw, Ny408.out]; exact HP54.1); clear HP54; have n0_ := Aside0.mk (hp_); have n1_ := Aside0.mk (blk_grown (g := gb391) (o := .cells #[.int .i64 a0_0, .int .i64 a0_1] 67 (0, 0)) (bk_ BK391.out) hg (Kd.R_ne HO_8.out BK391.out (by decide))); have n2_ := Aside0.mk ((by rw [hw]; exact below_set (HB.out) GB50.out : Below w.heap.size w w55)); clear HO_8; clear BK391; clear HB; have HO_8 := n0_; have BK391 := n1_; have HB := n2_; clear n0_ n1_ n2_; clear hg hw hp_; have p51 : 0 ≤ ((ji46) : Int) := of_decide_eq_true as_; have q51 : ((ji46) : Int) < ((x8_3.length : Int) : Int) := of_decide_eq_true as_; obtain ⟨hx51_0, hf51_0⟩ := Kd.R_celln 0 HO_8.out ((ji46) : Int) p51 q51; replace p51 := eq_true p51; replace q51 := eq_true q51; obtain ⟨hy56_, hz56_⟩ := Kd.R_celln 0 HO_8.out ((ji46) : Int) (of_decide_eq_true as_) (of_decide_eq_true as_); have HP56 := Kd.R_putg HO_8.out ((ji46) : Int) ji49) | ((with_reducible refine gate_store (t := 3) (p := 91) rfl ?_); refine store_event (t := 3) (p := 91) (v := ?vo_w57) (w1 := (w55.setCell ⟨go50, ((ji46) : Int).toNat, none⟩ (.int .i64 ji49))) ?hg ?ho ?hn ?hr ?_; (case ho => rfl); (case hg => rfl); (case hn => rfl); (case hr => first | (go_simp; done) | (go_simp; rfl)); intro w57 hw; have hg : w55.grownBy w57 (some go50) := (by rw [hw]; exact HP56.2); have hp_ : Kd.R (Kd.int .i64) 3 w57 w.heap.size (fun _ => True) (.slice (some ⟨go50, 0, none⟩) x8_3.length co53) y409 := (by rw [hw, Ny409.out]; exact HP56.1); clear HP56; have n0_ := Aside0.mk (hp_); have n1_ := Aside0.mk (blk_grown (g := gb391) (o := .cells #[.int .i64 a0_0, .int .i64 a0_1] 67 (0, 0)) (bk_ BK391.out) hg (Kd.R_ne HO_8.out BK391.out (by decide))); have n2_ := Aside0.mk ((by rw [hw]; exact below_set (HB.out) GB50.out : Below w.heap.size w w57)); clear HO_8; clear BK391; clear HB; have HO_8 := n0_; have BK391 := n1_; have HB := n2_; clear n0_ n1_ n2_; clear hg hw hp_))
                     (try subst hji46)
                     go_roundg kj18
                     case measure => have := HK1.out; have := HK2.out; have := HK3.out; have := HJ18.out; omega
                     case rel => exact ⟨(y409), (wrap64 (x44_3 + 1)), rs_, H', ⟨by have := HK1.out; have := HK2.out; have := HK3.out; have := HJ18.out; omega⟩, ⟨kr_ HO_8.out⟩, ⟨bk_ BK391.out⟩, ⟨bl1_ HB.out GE391.out⟩⟩
                    ·rw [if_neg c48] at H
                     exact absurd H (by simp)
                   ·rw [if_neg c47] at H
                    exact absurd H (by simp)
                  ·rw [if_neg c45] at H
                   exact absurd H (by simp)
                 ·rw [if_neg c44] at H
                  exact absurd H (by simp)
             ·rw [if_neg c24] at H
              exact absurd H (by simp)
            ·rw [if_neg c23] at H
             have c23b0 : decide (t401 < 0) = false := decide_eq_false c23
             clear c23
             by_cases c58 : 0 ≤ x44_3
             ·rw [if_pos c58] at H
              have c58b0 := eq_true c58
              have c58b1 : decide (0 ≤ x44_3) = true := decide_eq_true c58
              clear c58
              obtain ⟨ji59, hji59⟩ : ∃ j_ : Int, (shr .u64 a1 x44_3) = j_ := ⟨_, rfl⟩
              replace H : (if (Go.bits .and .u64 (ji59) 1) = 1 then (impl_grid_regions.l2 kj18 a1 a2 (wrap64 (a0_0 * a0_1)) x8_3 (wrap64 ((wrap64 (a0_0 * a0_1)) + 1)) x37_2 (wrap64 (t398 + t399)) (wrap64 (x44_3 + 1)) a0_0 a0_1) else (if a2 = true then (if 0 ≤ x11_18 then (if x11_18 < (x8_3.length : Int) then (if 0 ≤ t401 then (if t401 < (x8_3.length : Int) then (impl_grid_regions.l2 kj18 a1 a2 (wrap64 (a0_0 * a0_1)) ((x8_3.set (x11_18 : Int).toNat (mn (rd x8_3 x11_18) (rd x8_3 t401))).set (t401 : Int).toNat (mn (rd x8_3 x11_18) (rd x8_3 t401))) (wrap64 ((wrap64 (a0_0 * a0_1)) + 1)) x37_2 (wrap64 (t398 + t399)) (wrap64 (x44_3 + 1)) a0_0 a0_1) else (none)) else (none)) else (none)) else (none)) else (if (mx x11_18 t401) = (wrap64 (a0_0 * a0_1)) then (impl_grid_regions.l2 kj18 a1 a2 (wrap64 (a0_0 * a0_1)) x8_3 (wrap64 ((wrap64 (a0_0 * a0_1)) + 1)) x37_2 (wrap64 (t398 + t399)) (wrap64 (x44_3 + 1)) a0_0 a0_1) else (if 0 ≤ x11_18 then (if x11_18 < (x8_3.length : Int) then (if 0 ≤ t401 then (if t401 < (x8_3.length : Int) then (impl_grid_regions.l2 kj18 a1 a2 (wrap64 (a0_0 * a0_1)) ((x8_3.set (x11_18 : Int).toNat (mn (rd x8_3 x11_18) (rd x8_3 t401))).set (t401 : Int).toNat (mn (rd x8_3 x11_18) (rd x8_3 t401))) (wrap64 ((wrap64 (a0_0 * a0_1)) + 1)) x37_2 (wrap64 (t398 + t399)) (wrap64 (x44_3 + 1)) a0_0 a0_1) else (none)) else (none)) else (none)) else (none))))) = some r := by first | (rw [hji59] at H; exact H) | (simp only [hji59] at H ⊢; exact H)
              have hji59_ : (a1 / 2 ^ min x44_3.toNat 64) = ji59 := hji59
              have hji59z : x44_3 ≤ 64 → (a1 / 2 ^ x44_3.toNat) = ji59 := shr_small hji59
              by_cases c60 : (Go.bits .and .u64 (ji59) 1) = 1
              ·rw [if_pos c60] at H
               have c60b0 : ((Go.bits .and .u64 (ji59) 1) == 1) = true := beq_iff_eq.mpr c60
               have c60b1 : ((Go.bits .and .u64 (ji59) 1) != 1) = false := bne_eq_false_iff_eq.mpr c60
               clear c60
               have H' := Aside0.mk H
               clear H
               go_wp2
               go_roundg kj18
               case measure => have := HK1.out; have := HK2.out; have := HK3.out; have := HJ18.out; omega
               case rel => exact ⟨(x8_3), (wrap64 (x44_3 + 1)), rs_, H', ⟨by have := HK1.out; have := HK2.out; have := HK3.out; have := HJ18.out; omega⟩, ⟨kr_ HO_8.out⟩, ⟨bk_ BK391.out⟩, ⟨bl1_ HB.out GE391.out⟩⟩
              ·rw [if_neg c60] at H
               have c60b0 : ((Go.bits .and .u64 (ji59) 1) == 1) = false := beq_eq_false_iff_ne.mpr c60
               have c60b1 : ((Go.bits .and .u64 (ji59) 1) != 1) = true := bne_iff_ne.mpr c60
               by_cases c61 : a2 = true
               ·subst c61
                have H1 : (if 0 ≤ x11_18 then (if x11_18 < (x8_3.length : Int) then (if 0 ≤ t401 then (if t401 < (x8_3.length : Int) then (impl_grid_regions.l2 kj18 a1 true (wrap64 (a0_0 * a0_1)) ((x8_3.set (x11_18 : Int).toNat (mn (rd x8_3 x11_18) (rd x8_3 t401))).set (t401 : Int).toNat (mn (rd x8_3 x11_18) (rd x8_3 t401))) (wrap64 ((wrap64 (a0_0 * a0_1)) + 1)) x37_2 (wrap64 (t398 + t399)) (wrap64 (x44_3 + 1)) a0_0 a0_1) else (none)) else (none)) else (none)) else (none)) = some r := by rw [if_pos rfl] at H; exact H
                clear H
                have H := H1
                clear H1
                by_cases c62 : 0 ≤ x11_18
                ·rw [if_pos c62] at H
                 have c62b0 : decide (0 ≤ x11_18) = true := decide_eq_true c62
                 clear c62
                 by_cases c63 : x11_18 < (x8_3.length : Int)
                 ·rw [if_pos c63] at H
                  have c63b0 : decide (x11_18 < (x8_3.length : Int)) = true := decide_eq_true c63
                  clear c63
                  by_cases c64 : 0 ≤ t401
                  ·rw [if_pos c64] at H
                   have c64b0 : decide (0 ≤ t401) = true := decide_eq_true c64
                   clear c64
                   by_cases c65 : t401 < (x8_3.length : Int)
                   ·rw [if_pos c65] at H
                    have c65b0 : decide (t401 < (x8_3.length : Int)) = true := decide_eq_true c65
                    clear c65
                    obtain ⟨ji66, hji66⟩ : ∃ j_ : Int, (mn (rd x8_3 x11_18) (rd x8_3 t401)) = j_ := ⟨_, rfl⟩
                    replace H : (impl_grid_regions.l2 kj18 a1 true (wrap64 (a0_0 * a0_1)) ((x8_3.set (x11_18 : Int).toNat (ji66)).set (t401 : Int).toNat (ji66)) (wrap64 ((wrap64 (a0_0 * a0_1)) + 1)) x37_2 (wrap64 (t398 + t399)) (wrap64 (x44_3 + 1)) a0_0 a0_1) = some r := by first | (rw [hji66] at H; exact H) | (simp only [hji66] at H ⊢; exact H)
                    have hji66_ : (if (rd x8_3 t401) < (rd x8_3 x11_18) then (rd x8_3 t401) else (rd x8_3 x11_18)) = ji66 := hji66
                    obtain ⟨y412, hy412⟩ : ∃ y_ : List Int, y_ = (x8_3.set (x11_18 : Int).toNat (ji66)) := ⟨_, rfl⟩
                    replace H : (impl_grid_regions.l2 kj18 a1 true (wrap64 (a0_0 * a0_1)) (y412.set (t401 : Int).toNat (ji66)) (wrap64 ((wrap64 (a0_0 * a0_1)) + 1)) x37_2 (wrap64 (t398 + t399)) (wrap64 (x44_3 + 1)) a0_0 a0_1) = some r := by first | (rw [hy412]; with_reducible exact H) | (have H2_ := (Option.bind_some _ _).symm.trans H; rw [hy412]; with_reducible exact H2_) | (have H2_ := (Option.bind_some _ _).symm.trans H; with_reducible exact H2_) | with_reducible exact H | (rw [hy412]; exact H) | exact H
                    have Ny412 := Aside0.mk hy412
                    clear hy412
                    obtain ⟨y413, hy413⟩ : ∃ y_ : List Int, y_ = (y412.set (t401 : Int).toNat (ji66)) := ⟨_, rfl⟩
                    replace H : (impl_grid_regions.l2 kj18 a1 true (wrap64 (a0_0 * a0_1)) y413 (wrap64 ((wrap64 (a0_0 * a0_1)) + 1)) x37_2 (wrap64 (t398 + t399)) (wrap64 (x44_3 + 1)) a0_0 a0_1) = some r := by first | (rw [hy413]; with_reducible exact H) | (have H2_ := (Option.bind_some _ _).symm.trans H; rw [hy413]; with_reducible exact H2_) | (have H2_ := (Option.bind_some _ _).symm.trans H; with_reducible exact H2_) | with_reducible exact H | (rw [hy413]; exact H) | exact H
                    have Ny413 := Aside0.mk hy413
                    clear hy413
                    have H' := Aside0.mk H
                    clear H
                    try go_wp2
                    have n0_ := Aside0.mk (Kd.R_drew HO_8.out)
                    have n1_ := Aside0.mk (blk_drew BK391.out)
                    have n2_ := Aside0.mk (below_drew1 HB.out)
                    clear HO_8
                    clear BK391
                    clear HB
                    have HO_8 := n0_
                    have BK391 := n1_
                    have HB := n2_
                    clear n0_ n1_ n2_
                    obtain ⟨Ao70, co70, eo70⟩ := Kd.R_slice HO_8.out
                    (first | subst eo70 | (injection eo70 with f1_ f2_ f3_; have f4_ := f1_.symm; have f5_ := f3_.symm; clear f1_ f2_ f3_; subst f4_; subst f5_))
                    have p410 : 0 ≤ (x11_18 : Int) := of_decide_eq_true as_
                    have q410 : x11_18 < (x8_3.length : Int) := of_decide_eq_true as_
                    obtain ⟨ad410, e410, hx410_0⟩ := Kd.at_int (Kd.R_reads' HO_8.out).2.2 x11_18 p410 q410
                    cases e410
                    replace p410 := eq_true p410
                    replace q410 := eq_true q410
                    have p411 : 0 ≤ (t401 : Int) := of_decide_eq_true as_
                    have q411 : t401 < (x8_3.length : Int) := of_decide_eq_true as_
                    obtain ⟨ad411, e411, hx411_0⟩ := Kd.at_int (Kd.R_reads' HO_8.out).2.2 t401 p411 q411
                    obtain rfl : ad410 = ad411 := (by injection e411)
                    replace p411 := eq_true p411
                    replace q411 := eq_true q411
                    refine start_ (n := 10) (S := fun w' => w'.cell? (ad410.add (x11_18).toNat) = some (.int .i64 (rd x8_3 x11_18)) ∧ w'.cell? (ad410.add (t401).toNat) = some (.int .i64 (rd x8_3 t401))) (ds := []) #[Ff, Ff, Ff, Ff, Ff, Ff, Ff, Ff, Ff, Ff] (by kernel_rfl) rfl rfl ⟨hx410_0, hx411_0⟩ (fun hHeld => ?_); refine with_tabW impl_grid_regions.tab19 impl_grid_regions.bits19 (fun HT_ HW_ => ?_)
                    generalize wc.drew = w69 at HO_8 BK391 HB hx410_0 hx411_0 hHeld ⊢
                    refine pZ (i := 0) (N := some 75) #[Tt, Ff, Ff, Ff, Ff, Ff, Ff, Ff, Ff, Ff] ?_
                    refine pZ (i := 1) (N := some 76) #[Tt, Tt, Ff, Ff, Ff, Ff, Ff, Ff, Ff, Ff] ?_
                    refine pZ (i := 2) (N := some 77) #[Tt, Tt, Tt, Ff, Ff, Ff, Ff, Ff, Ff, Ff] ?_
                    refine pZ (i := 4) (N := some 79) #[Tt, Tt, Tt, Ff, Tt, Ff, Ff, Ff, Ff, Ff] ?_
                    refine pZ (i := 5) (N := some 80) #[Tt, Tt, Tt, Ff, Tt, Tt, Ff, Ff, Ff, Ff] ?_
                    refine pZ (i := 6) (N := some 81) #[Tt, Tt, Tt, Ff, Tt, Tt, Tt, Ff, Ff, Ff] ?_
                    refine tZ (i := 3) (N := some 78) #[Tt, Tt, Tt, Tt, Tt, Tt, Tt, Ff, Ff, Ff] ?_
                    refine tZ (i := 7) (N := some 82) #[Tt, Tt, Tt, Tt, Tt, Tt, Tt, Tt, Ff, Ff] ?_
                    refine pZ (i := 8) (N := some 83) #[Tt, Tt, Tt, Tt, Tt, Tt, Tt, Tt, Tt, Ff] ?_
                    refine pZ (i := 9) (N := some 13) #[Tt, Tt, Tt, Tt, Tt, Tt, Tt, Tt, Tt, Tt] ?_
                    refine done_ (done_of HT_.out (by kernel_rfl)) ?_
                    have p67 : 0 ≤ (x11_18 : Int) := of_decide_eq_true as_
                    have q67 : (x11_18 : Int) < ((x8_3.length : Int) : Int) := of_decide_eq_true as_
                    obtain ⟨go67, co67, eo67, gb67, gl67, cl67, HG67⟩ := Kd.R_form HO_8.out (by omega)
                    (first | cases eo67 | (injection eo67 with ea_ en_ ec_; (first | subst ea_ | (injection ea_ with ea_; subst ea_)); subst ec_; clear en_))
                    have GB67 := Aside0.mk gb67
                    have GG67 := Aside0.mk HG67
                    clear gb67 gl67 HG67
                    (first | simp only [add_plain] at hx410_0 | skip)
                    (first | simp only [add_plain] at hx411_0 | skip)
                    obtain ⟨hx67_0, hf67_0⟩ := Kd.R_celln 0 HO_8.out (x11_18 : Int) p67 q67
                    replace p67 := eq_true p67
                    replace q67 := eq_true q67
                    obtain ⟨hy71_, hz71_⟩ := Kd.R_celln 0 HO_8.out (x11_18 : Int) (of_decide_eq_true as_) (of_decide_eq_true as_)
                    have HP71 := Kd.R_putg HO_8.out (x11_18 : Int) ji66
                    try go_wp2_with (first | ((with_reducible refine gate_store (t := 3) (p := 90) rfl ?_); refine store_event (t := 3) (p := 90) (v := ?vo_w72) (w1 := (w69.setCell ⟨go67, (x11_18 : Int).toNat, none⟩ (.int .i64 ji66))) ?hg ?ho ?hn ?hr ?_; (case ho => rfl); (case hg => rfl); (case hn => rfl); (case hr => first | (go_simp; done) | (go_simp; rfl)); intro w72 hw; have hg : w69.grownBy w72 (some go67) := (by rw [hw]; exact HP71.2); have hp_ : Kd.R (Kd.int .i64) 3 w72 w.heap.size (fun _ => True) (.slice (some ⟨go67, 0, none⟩) x8_3.length co70) y412 := (by rw [hw, Ny412.out]; exact HP71.1); clear HP71; have n0_ := Aside0.mk (hp_); have n1_ := Aside0.mk (blk_grown (g := gb391) (o := .cells #[.int .i64 a0_0, .int .i64 a0_1] 67 (0, 0)) (bk_ BK391.out) hg (Kd.R_ne HO_8.out BK391.out (by decide))); have n2_ := Aside0.mk ((by rw [hw]; exact below_set (HB.out) GB67.out : Below w.heap.size w w72)); clear HO_8; clear BK391; clear HB; have HO_8 := n0_; have BK391 := n1_; have HB := n2_; clear n0_ n1_ n2_; clear hg hw hp_; have p68 : 0 ≤ (t401 : Int) := of_decide_eq_true as_; have q68 : (t401 : Int) < ((x8_3.length : Int) : Int) := of_decide_eq_true as_; obtain ⟨hx68_0, hf68_0⟩ := Kd.R_celln 0 HO_8.out (t401 : Int) p68 q68; replace p68 := eq_true p68; replace q68 := eq_true q68; obtain ⟨hy73_, hz73_⟩ := Kd.R_celln 0 HO_8.out (t401 : Int) (of_decide_eq_true as_) (of_decide_eq_true as_); have HP73 := Kd.R_putg HO_8.out (t401 : Int) ji66) | ((with_reducible refine gate_store (t := 3) (p := 91) rfl ?_); refine store_event (t := 3) (p := 91) (v := ?vo_w74) (w1 := (w72.setCell ⟨go67, (t401 : Int).toNat, none⟩ (.int .i64 ji66))) ?hg ?ho ?hn ?hr ?_; (case ho => rfl); (case hg => rfl); (case hn => rfl); (case hr => first | (go_simp; done) | (go_simp; rfl)); intro w74 hw; have hg : w72.grownBy w74 (some go67) := (by rw [hw]; exact HP73.2); have hp_ : Kd.R (Kd.int .i64) 3 w74 w.heap.size (fun _ => True) (.slice (some ⟨go67, 0, none⟩) x8_3.length co70) y413 := (by rw [hw, Ny413.out]; exact HP73.1); clear HP73; have n0_ := Aside0.mk (hp_); have n1_ := Aside0.mk (blk_grown (g := gb391) (o := .cells #[.int .i64 a0_0, .int .i64 a0_1] 67 (0, 0)) (bk_ BK391.out) hg (Kd.R_ne HO_8.out BK391.out (by decide))); have n2_ := Aside0.mk ((by rw [hw]; exact below_set (HB.out) GB67.out : Below w.heap.size w w74)); clear HO_8; clear BK391; clear HB; have HO_8 := n0_; have BK391 := n1_; have HB := n2_; clear n0_ n1_ n2_; clear hg hw hp_))
                    go_roundg kj18
                    case measure => have := HK1.out; have := HK2.out; have := HK3.out; have := HJ18.out; omega
                    case rel => exact ⟨(y413), (wrap64 (x44_3 + 1)), rs_, H', ⟨by have := HK1.out; have := HK2.out; have := HK3.out; have := HJ18.out; omega⟩, ⟨kr_ HO_8.out⟩, ⟨bk_ BK391.out⟩, ⟨bl1_ HB.out GE391.out⟩⟩
                   ·rw [if_neg c65] at H
                    exact absurd H (by simp)
                  ·rw [if_neg c64] at H
                   exact absurd H (by simp)
                 ·rw [if_neg c63] at H
                  exact absurd H (by simp)
                ·rw [if_neg c62] at H
                 exact absurd H (by simp)
               ·replace c61 := Bool.eq_false_iff.mpr c61
                subst c61
                have H1 : (if (mx x11_18 t401) = (wrap64 (a0_0 * a0_1)) then (impl_grid_regions.l2 kj18 a1 false (wrap64 (a0_0 * a0_1)) x8_3 (wrap64 ((wrap64 (a0_0 * a0_1)) + 1)) x37_2 (wrap64 (t398 + t399)) (wrap64 (x44_3 + 1)) a0_0 a0_1) else (if 0 ≤ x11_18 then (if x11_18 < (x8_3.length : Int) then (if 0 ≤ t401 then (if t401 < (x8_3.length : Int) then (impl_grid_regions.l2 kj18 a1 false (wrap64 (a0_0 * a0_1)) ((x8_3.set (x11_18 : Int).toNat (mn (rd x8_3 x11_18) (rd x8_3 t401))).set (t401 : Int).toNat (mn (rd x8_3 x11_18) (rd x8_3 t401))) (wrap64 ((wrap64 (a0_0 * a0_1)) + 1)) x37_2 (wrap64 (t398 + t399)) (wrap64 (x44_3 + 1)) a0_0 a0_1) else (none)) else (none)) else (none)) else (none))) = some r := by rw [if_neg (show ¬ (false = true) by decide)] at H; exact H
                clear H
                have H := H1
                clear H1
                obtain ⟨ji75, hji75⟩ : ∃ j_ : Int, (mx x11_18 t401) = j_ := ⟨_, rfl⟩
                replace H : (if (ji75) = (wrap64 (a0_0 * a0_1)) then (impl_grid_regions.l2 kj18 a1 false (wrap64 (a0_0 * a0_1)) x8_3 (wrap64 ((wrap64 (a0_0 * a0_1)) + 1)) x37_2 (wrap64 (t398 + t399)) (wrap64 (x44_3 + 1)) a0_0 a0_1) else (if 0 ≤ x11_18 then (if x11_18 < (x8_3.length : Int) then (if 0 ≤ t401 then (if t401 < (x8_3.length : Int) then (impl_grid_regions.l2 kj18 a1 false (wrap64 (a0_0 * a0_1)) ((x8_3.set (x11_18 : Int).toNat (mn (rd x8_3 x11_18) (rd x8_3 t401))).set (t401 : Int).toNat (mn (rd x8_3 x11_18) (rd x8_3 t401))) (wrap64 ((wrap64 (a0_0 * a0_1)) + 1)) x37_2 (wrap64 (t398 + t399)) (wrap64 (x44_3 + 1)) a0_0 a0_1) else (none)) else (none)) else (none)) else (none))) = some r := by first | (rw [hji75] at H; exact H) | (simp only [hji75] at H ⊢; exact H)
                have hji75_ : (if x11_18 < t401 then t401 else x11_18) = ji75 := hji75
                by_cases c76 : (ji75) = (wrap64 (a0_0 * a0_1))
                ·rw [if_pos c76] at H
                 have c76b0 : ((ji75) == (wrap64 (a0_0 * a0_1))) = true := beq_iff_eq.mpr c76
                 have c76b1 : ((ji75) != (wrap64 (a0_0 * a0_1))) = false := bne_eq_false_iff_eq.mpr c76
                 clear c76
                 have H' := Aside0.mk H
                 clear H
                 go_wp2
                 go_roundg kj18
                 case measure => have := HK1.out; have := HK2.out; have := HK3.out; have := HJ18.out; omega
                 case rel => exact ⟨(x8_3), (wrap64 (x44_3 + 1)), rs_, H', ⟨by have := HK1.out; have := HK2.out; have := HK3.out; have := HJ18.out; omega⟩, ⟨kr_ HO_8.out⟩, ⟨bk_ BK391.out⟩, ⟨bl1_ HB.out GE391.out⟩⟩
                ·rw [if_neg c76] at H
                 have c76b0 : ((ji75) == (wrap64 (a0_0 * a0_1))) = false := beq_eq_false_iff_ne.mpr c76
                 have c76b1 : ((ji75) != (wrap64 (a0_0 * a0_1))) = true := bne_iff_ne.mpr c76
                 by_cases c77 : 0 ≤ x11_18
                 ·rw [if_pos c77] at H
                  have c77b0 : decide (0 ≤ x11_18) = true := decide_eq_true c77
                  clear c77
                  by_cases c78 : x11_18 < (x8_3.length : Int)
                  ·rw [if_pos c78] at H
                   have c78b0 : decide (x11_18 < (x8_3.length : Int)) = true := decide_eq_true c78
                   clear c78
                   by_cases c79 : 0 ≤ t401
                   ·rw [if_pos c79] at H
                    have c79b0 : decide (0 ≤ t401) = true := decide_eq_true c79
                    clear c79
                    by_cases c80 : t401 < (x8_3.length : Int)
                    ·rw [if_pos c80] at H
                     have c80b0 : decide (t401 < (x8_3.length : Int)) = true := decide_eq_true c80
                     clear c80
                     obtain ⟨ji81, hji81⟩ : ∃ j_ : Int, (mn (rd x8_3 x11_18) (rd x8_3 t401)) = j_ := ⟨_, rfl⟩
                     replace H : (impl_grid_regions.l2 kj18 a1 false (wrap64 (a0_0 * a0_1)) ((x8_3.set (x11_18 : Int).toNat (ji81)).set (t401 : Int).toNat (ji81)) (wrap64 ((wrap64 (a0_0 * a0_1)) + 1)) x37_2 (wrap64 (t398 + t399)) (wrap64 (x44_3 + 1)) a0_0 a0_1) = some r := by first | (rw [hji81] at H; exact H) | (simp only [hji81] at H ⊢; exact H)
                     have hji81_ : (if (rd x8_3 t401) < (rd x8_3 x11_18) then (rd x8_3 t401) else (rd x8_3 x11_18)) = ji81 := hji81
                     obtain ⟨y416, hy416⟩ : ∃ y_ : List Int, y_ = (x8_3.set (x11_18 : Int).toNat (ji81)) := ⟨_, rfl⟩
                     replace H : (impl_grid_regions.l2 kj18 a1 false (wrap64 (a0_0 * a0_1)) (y416.set (t401 : Int).toNat (ji81)) (wrap64 ((wrap64 (a0_0 * a0_1)) + 1)) x37_2 (wrap64 (t398 + t399)) (wrap64 (x44_3 + 1)) a0_0 a0_1) = some r := by first | (rw [hy416]; with_reducible exact H) | (have H2_ := (Option.bind_some _ _).symm.trans H; rw [hy416]; with_reducible exact H2_) | (have H2_ := (Option.bind_some _ _).symm.trans H; with_reducible exact H2_) | with_reducible exact H | (rw [hy416]; exact H) | exact H
                     have Ny416 := Aside0.mk hy416
                     clear hy416
                     obtain ⟨y417, hy417⟩ : ∃ y_ : List Int, y_ = (y416.set (t401 : Int).toNat (ji81)) := ⟨_, rfl⟩
                     replace H : (impl_grid_regions.l2 kj18 a1 false (wrap64 (a0_0 * a0_1)) y417 (wrap64 ((wrap64 (a0_0 * a0_1)) + 1)) x37_2 (wrap64 (t398 + t399)) (wrap64 (x44_3 + 1)) a0_0 a0_1) = some r := by first | (rw [hy417]; with_reducible exact H) | (have H2_ := (Option.bind_some _ _).symm.trans H; rw [hy417]; with_reducible exact H2_) | (have H2_ := (Option.bind_some _ _).symm.trans H; with_reducible exact H2_) | with_reducible exact H | (rw [hy417]; exact H) | exact H
                     have Ny417 := Aside0.mk hy417
                     clear hy417
                     have H' := Aside0.mk H
                     clear H
                     try go_wp2
                     have n0_ := Aside0.mk (Kd.R_drew HO_8.out)
                     have n1_ := Aside0.mk (blk_drew BK391.out)
                     have n2_ := Aside0.mk (below_drew1 HB.out)
                     clear HO_8
                     clear BK391
                     clear HB
                     have HO_8 := n0_
                     have BK391 := n1_
                     have HB := n2_
                     clear n0_ n1_ n2_
                     obtain ⟨Ao85, co85, eo85⟩ := Kd.R_slice HO_8.out
                     (first | subst eo85 | (injection eo85 with f1_ f2_ f3_; have f4_ := f1_.symm; have f5_ := f3_.symm; clear f1_ f2_ f3_; subst f4_; subst f5_))
                     have p414 : 0 ≤ (x11_18 : Int) := of_decide_eq_true as_
                     have q414 : x11_18 < (x8_3.length : Int) := of_decide_eq_true as_
                     obtain ⟨ad414, e414, hx414_0⟩ := Kd.at_int (Kd.R_reads' HO_8.out).2.2 x11_18 p414 q414
                     cases e414
                     replace p414 := eq_true p414
                     replace q414 := eq_true q414
                     have p415 : 0 ≤ (t401 : Int) := of_decide_eq_true as_
                     have q415 : t401 < (x8_3.length : Int) := of_decide_eq_true as_
                     obtain ⟨ad415, e415, hx415_0⟩ := Kd.at_int (Kd.R_reads' HO_8.out).2.2 t401 p415 q415
                     obtain rfl : ad414 = ad415 := (by injection e415)
                     replace p415 := eq_true p415
                     replace q415 := eq_true q415
                     refine start_ (n := 10) (S := fun w' => w'.cell? (ad414.add (x11_18).toNat) = some (.int .i64 (rd x8_3 x11_18)) ∧ w'.cell? (ad414.add (t401).toNat) = some (.int .i64 (rd x8_3 t401))) (ds := []) #[Ff, Ff, Ff, Ff, Ff, Ff, Ff, Ff, Ff, Ff] (by kernel_rfl) rfl rfl ⟨hx414_0, hx415_0⟩ (fun hHeld => ?_); refine with_tabW impl_grid_regions.tab19 impl_grid_regions.bits19 (fun HT_ HW_ => ?_)
                     generalize wc.drew = w84 at HO_8 BK391 HB hx414_0 hx415_0 hHeld ⊢
                     refine pZ (i := 0) (N := some 75) #[Tt, Ff, Ff, Ff, Ff, Ff, Ff, Ff, Ff, Ff] ?_
                     refine pZ (i := 1) (N := some 76) #[Tt, Tt, Ff, Ff, Ff, Ff, Ff, Ff, Ff, Ff] ?_
                     refine pZ (i := 2) (N := some 77) #[Tt, Tt, Tt, Ff, Ff, Ff, Ff, Ff, Ff, Ff] ?_
                     refine pZ (i := 4) (N := some 79) #[Tt, Tt, Tt, Ff, Tt, Ff, Ff, Ff, Ff, Ff] ?_
                     refine pZ (i := 5) (N := some 80) #[Tt, Tt, Tt, Ff, Tt, Tt, Ff, Ff, Ff, Ff] ?_
                     refine pZ (i := 6) (N := some 81) #[Tt, Tt, Tt, Ff, Tt, Tt, Tt, Ff, Ff, Ff] ?_
                     refine tZ (i := 3) (N := some 78) #[Tt, Tt, Tt, Tt, Tt, Tt, Tt, Ff, Ff, Ff] ?_
                     refine tZ (i := 7) (N := some 82) #[Tt, Tt, Tt, Tt, Tt, Tt, Tt, Tt, Ff, Ff] ?_
                     refine pZ (i := 8) (N := some 83) #[Tt, Tt, Tt, Tt, Tt, Tt, Tt, Tt, Tt, Ff] ?_
                     refine pZ (i := 9) (N := some 13) #[Tt, Tt, Tt, Tt, Tt, Tt, Tt, Tt, Tt, Tt] ?_
                     refine done_ (done_of HT_.out (by kernel_rfl)) ?_
                     have p82 : 0 ≤ (x11_18 : Int) := of_decide_eq_true as_
                     have q82 : (x11_18 : Int) < ((x8_3.length : Int) : Int) := of_decide_eq_true as_
                     obtain ⟨go82, co82, eo82, gb82, gl82, cl82, HG82⟩ := Kd.R_form HO_8.out (by omega)
                     (first | cases eo82 | (injection eo82 with ea_ en_ ec_; (first | subst ea_ | (injection ea_ with ea_; subst ea_)); subst ec_; clear en_))
                     have GB82 := Aside0.mk gb82
                     have GG82 := Aside0.mk HG82
                     clear gb82 gl82 HG82
                     (first | simp only [add_plain] at hx414_0 | skip)
                     (first | simp only [add_plain] at hx415_0 | skip)
                     obtain ⟨hx82_0, hf82_0⟩ := Kd.R_celln 0 HO_8.out (x11_18 : Int) p82 q82
                     replace p82 := eq_true p82
                     replace q82 := eq_true q82
                     obtain ⟨hy86_, hz86_⟩ := Kd.R_celln 0 HO_8.out (x11_18 : Int) (of_decide_eq_true as_) (of_decide_eq_true as_)
                     have HP86 := Kd.R_putg HO_8.out (x11_18 : Int) ji81
                     try go_wp2_with (first | ((with_reducible refine gate_store (t := 3) (p := 90) rfl ?_); refine store_event (t := 3) (p := 90) (v := ?vo_w87) (w1 := (w84.setCell ⟨go82, (x11_18 : Int).toNat, none⟩ (.int .i64 ji81))) ?hg ?ho ?hn ?hr ?_; (case ho => rfl); (case hg => rfl); (case hn => rfl); (case hr => first | (go_simp; done) | (go_simp; rfl)); intro w87 hw; have hg : w84.grownBy w87 (some go82) := (by rw [hw]; exact HP86.2); have hp_ : Kd.R (Kd.int .i64) 3 w87 w.heap.size (fun _ => True) (.slice (some ⟨go82, 0, none⟩) x8_3.length co85) y416 := (by rw [hw, Ny416.out]; exact HP86.1); clear HP86; have n0_ := Aside0.mk (hp_); have n1_ := Aside0.mk (blk_grown (g := gb391) (o := .cells #[.int .i64 a0_0, .int .i64 a0_1] 67 (0, 0)) (bk_ BK391.out) hg (Kd.R_ne HO_8.out BK391.out (by decide))); have n2_ := Aside0.mk ((by rw [hw]; exact below_set (HB.out) GB82.out : Below w.heap.size w w87)); clear HO_8; clear BK391; clear HB; have HO_8 := n0_; have BK391 := n1_; have HB := n2_; clear n0_ n1_ n2_; clear hg hw hp_; have p83 : 0 ≤ (t401 : Int) := of_decide_eq_true as_; have q83 : (t401 : Int) < ((x8_3.length : Int) : Int) := of_decide_eq_true as_; obtain ⟨hx83_0, hf83_0⟩ := Kd.R_celln 0 HO_8.out (t401 : Int) p83 q83; replace p83 := eq_true p83; replace q83 := eq_true q83; obtain ⟨hy88_, hz88_⟩ := Kd.R_celln 0 HO_8.out (t401 : Int) (of_decide_eq_true as_) (of_decide_eq_true as_); have HP88 := Kd.R_putg HO_8.out (t401 : Int) ji81) | ((with_reducible refine gate_store (t := 3) (p := 91) rfl ?_); refine store_event (t := 3) (p := 91) (v := ?vo_w89) (w1 := (w87.setCell ⟨go82, (t401 : Int).toNat, none⟩ (.int .i64 ji81))) ?hg ?ho ?hn ?hr ?_; (case ho => rfl); (case hg => rfl); (case hn => rfl); (case hr => first | (go_simp; done) | (go_simp; rfl)); intro w89 hw; have hg : w87.grownBy w89 (some go82) := (by rw [hw]; exact HP88.2); have hp_ : Kd.R (Kd.int .i64) 3 w89 w.heap.size (fun _ => True) (.slice (some ⟨go82, 0, none⟩) x8_3.length co85) y417 := (by rw [hw, Ny417.out]; exact HP88.1); clear HP88; have n0_ := Aside0.mk (hp_); have n1_ := Aside0.mk (blk_grown (g := gb391) (o := .cells #[.int .i64 a0_0, .int .i64 a0_1] 67 (0, 0)) (bk_ BK391.out) hg (Kd.R_ne HO_8.out BK391.out (by decide))); have n2_ := Aside0.mk ((by rw [hw]; exact below_set (HB.out) GB82.out : Below w.heap.size w w89)); clear HO_8; clear BK391; clear HB; have HO_8 := n0_; have BK391 := n1_; have HB := n2_; clear n0_ n1_ n2_; clear hg hw hp_))
                     go_roundg kj18
                     case measure => have := HK1.out; have := HK2.out; have := HK3.out; have := HJ18.out; omega
                     case rel => exact ⟨(y417), (wrap64 (x44_3 + 1)), rs_, H', ⟨by have := HK1.out; have := HK2.out; have := HK3.out; have := HJ18.out; omega⟩, ⟨kr_ HO_8.out⟩, ⟨bk_ BK391.out⟩, ⟨bl1_ HB.out GE391.out⟩⟩
                    ·rw [if_neg c80] at H
                     exact absurd H (by simp)
                   ·rw [if_neg c79] at H
                    exact absurd H (by simp)
                  ·rw [if_neg c78] at H
                   exact absurd H (by simp)
                 ·rw [if_neg c77] at H
                  exact absurd H (by simp)
             ·rw [if_neg c58] at H
              exact absurd H (by simp)
         ·rw [if_neg c17] at H
          have c17b0 : decide (x44_3 < (wrap64 (t398 + t399))) = false := decide_eq_false c17
          clear c17
          have H' := Aside0.mk H
          clear H
          go_wp2
          go_roundg k3
          case measure => have := HK1.out; have := HK2.out; have := HK3.out; omega
          case rel => exact ⟨(x8_3), (wrap64 (x37_2 + 1)), rs_, H', ⟨by have := HK1.out; have := HK2.out; have := HK3.out; omega⟩, ⟨kr_ HO_8.out⟩, ⟨bk_ BK391.out⟩, ⟨bl1_ HB.out GE391.out⟩⟩
      ·rw [if_neg c11] at H
       have c11b0 : decide (x37_2 < (wrap64 ((wrap64 (a0_0 * a0_1)) + 1))) = false := decide_eq_false c11
       clear c11
       obtain ⟨y418, hy418⟩ : ∃ y_ : List (List Int), y_ = (([] : List (List Int))) := ⟨_, rfl⟩
       replace H : (impl_grid_regions.l3 k2 a2 (wrap64 (a0_0 * a0_1)) x8_2 y418 (wrap64 (a0_0 * a0_1)) 0) = some r := by first | (rw [hy418]; with_reducible exact H) | (have H2_ := (Option.bind_some _ _).symm.trans H; rw [hy418]; with_reducible exact H2_) | (have H2_ := (Option.bind_some _ _).symm.trans H; with_reducible exact H2_) | with_reducible exact H | (rw [hy418]; exact H) | exact H
       have Ny418 := Aside0.mk hy418
       clear hy418
       have H' := Aside0.mk H
       clear H
       go_wp2_with (first | ((with_reducible refine gate_dst (N := 94) rfl ?_); (try (refine gate_guard (by rfl) ?_; dsimp only)); refine Kd.S_lit (Kd.slice 3 (Kd.int .i64)) _ 22 ?hg (N := 94) ?hd (xs := ([] : List (List Int))) (inner := []) (ok := fun _ => True) (okp := fun _ => True) ?hr ?hp (fun _ hk => hk) trivial (Below.refl _ _) (Nat.le_refl _) (by simp) ?_; (case hd => rfl); (case hg => rfl); (case hr => first | (go_simp; done) | (go_simp; rfl)); (case hp => exact (Reps.none _ _)); intro v419 w90 ho91 hb hg_ hnew_; clear hg_ hnew_; (first | rw [← Ny418.out] at ho91 | (simp only [Int.reduceToNat] at ho91; rw [← Ny418.out] at ho91)); have n0_ := Aside0.mk (Kd.R_below (kr_ HO_8.out) hb); have n1_ := Aside0.mk (Kd.S_lower (Kd.S_new' ho91 (Kd.R_lt (kr_ HO_8.out))) (below_size (bl1_ HB.out GE391.out))); have n2_ := Aside0.mk (bb_ BK391.out hb); have n3_ := Aside0.mk (below_step (bl1_ HB.out GE391.out) hb); clear HO_8; clear BK391; clear HB; have HO_8 := n0_; have HO420 := n1_; have BK391 := n2_; have HB := n3_; clear n0_ n1_ n2_ n3_; clear hb ho91))
       go_loopg [14, 96] k2 (fun kq v14 v96 w' => ∃ (x14_3 : List (List Int)) (x96_3 : Int), v96 = .int .i64 x96_3 ∧ Aside0 (impl_grid_regions.l3 kq a2 (wrap64 (a0_0 * a0_1)) x8_2 x14_3 (wrap64 (a0_0 * a0_1)) x96_3 = some r) ∧ Aside0 (kq ≤ k2) ∧ Aside0 (Kd.R (Kd.int .i64) 3 w' w.heap.size (fun _ => True) u8 x8_2) ∧ Aside0 (Kd.S (Kd.slice 3 (Kd.int .i64)) 22 w' w.heap.size (fun k_ => some k_ ≠ (u8 : Value).ownBlock) v14 x14_3) ∧ Aside0 (w'.heap[gb391]? = some (.cells #[.int .i64 a0_0, .int .i64 a0_1] 67 (0, 0))) ∧ Aside0 (Below w.heap.size w w'))
       case atStart => exact ⟨(y418), (0), rs_, H', ⟨Nat.le_refl _⟩, ⟨kr_ HO_8.out⟩, ⟨by (with_reducible repeat (first | apply Kd.S_alloc | apply Kd.S_drewN | apply Kd.S_drew)); exact Kd.S_mono HO420.out (fun _ hk => hk.2)⟩, ⟨bk_ BK391.out⟩, ⟨bl1_ HB.out GE391.out⟩⟩
       case round =>
        clear H'
        try clear c1
        try clear c2
        try clear p2
        try clear c4
        try clear p4
        try clear q4
        try clear hx4
        try clear c5
        try clear p5
        try clear q5
        try clear hx5
        try clear hf5
        try clear c6
        try clear p6
        try clear q6
        try clear hx6
        try clear hf6
        try clear c7
        try clear c8
        try clear c8b0
        try clear p8
        try clear q8
        try clear hx8
        try clear hf8
        try clear c11
        try clear c11b0
        try clear c17
        try clear c17b0
        try clear c23
        try clear c23b0
        try clear c24
        try clear c27
        try clear p40
        try clear q40
        try clear hx40
        try clear p41
        try clear q41
        try clear hx41
        try clear c43
        try clear c43b0
        try clear c43b1
        try clear c44
        try clear c44b0
        try clear c45
        try clear c45b0
        try clear c47
        try clear c47b0
        try clear c48
        try clear c48b0
        try clear p50
        try clear q50
        try clear hx50
        try clear hf50
        try clear p51
        try clear q51
        try clear hx51
        try clear hf51
        try clear c58
        try clear c58b0
        try clear c58b1
        try clear c60
        try clear c60b0
        try clear c60b1
        try clear c61
        try clear c62
        try clear c62b0
        try clear c63
        try clear c63b0
        try clear c64
        try clear c64b0
        try clear p64
        try clear c65
        try clear c65b0
        try clear p67
        try clear q67
        try clear hx67
        try clear hf67
        try clear p68
        try clear q68
        try clear hx68
        try clear hf68
        try clear c76
        try clear c76b0
        try clear c76b1
        try clear c77
        try clear c77b0
        try clear c78
        try clear c78b0
        try clear c79
        try clear c79b0
        try clear c80
        try clear c80b0
        try clear p82
        try clear q82
        try clear hx82
        try clear hf82
        try clear p83
        try clear q83
        try clear hx83
        try clear hf83
        try clear hx406_0
        try clear hx407_0
        try clear hx410_0
        try clear hx411_0
        try clear hx414_0
        try clear hx415_0
        try clear hx50_0
        try clear hx51_0
        try clear hx67_0
        try clear hx68_0
        try clear hx82_0
        try clear hx83_0
        try clear p406
        try clear p407
        try clear p410
        try clear p411
        try clear p414
        try clear p415
        try clear p50
        try clear p51
        try clear p67
        try clear p68
        try clear p82
        try clear p83
        try clear q406
        try clear q407
        try clear q410
        try clear q411
        try clear q414
        try clear q415
        try clear q50
        try clear q51
        try clear q67
        try clear q68
        try clear q82
        try clear q83
        obtain ⟨x14_3, x96_3, rfl, HA, HK3, HO_8, HO_14, BK391, HB⟩ := hrel
        cases gk with
        | zero => exact absurd HA.out (by simp [impl_grid_regions.l3])
        | succ k3 =>
         have H := HA.out
         clear HA
         simp only [impl_grid_regions.l3] at H
         by_cases c92 : x96_3 < (wrap64 (a0_0 * a0_1))
         ·rw [if_pos c92] at H
          have c92b0 : decide (x96_3 < (wrap64 (a0_0 * a0_1))) = true := decide_eq_true c92
          clear c92
          obtain ⟨y421, hy421⟩ : ∃ y_ : List Int, y_ = (([] : List Int)) := ⟨_, rfl⟩
          replace H : (if 0 ≤ (wrap64 (a0_0 * a0_1)) then (if (wrap64 (a0_0 * a0_1)) ≤ (x8_2.length : Int) then ((some (x8_2.take ((wrap64 (a0_0 * a0_1)) : Int).toNat : List Int)).bind fun y424 => (impl_grid_regions.l4 k3 a2 (wrap64 (a0_0 * a0_1)) x8_2 x14_3 x96_3 y421 (wrap64 (a0_0 * a0_1)) x96_3 y424 (y424.length : Int) 0)) else (none)) else (none)) = some r := by first | (rw [hy421]; with_reducible exact H) | (have H2_ := (Option.bind_some _ _).symm.trans H; rw [hy421]; with_reducible exact H2_) | (have H2_ := (Option.bind_some _ _).symm.trans H; with_reducible exact H2_) | with_reducible exact H | (rw [hy421]; exact H) | exact H
          have Ny421 := Aside0.mk hy421
          clear hy421
          obtain ⟨ji93, hji93⟩ : ∃ j_ : Int, (wrap64 (a0_0 * a0_1)) = j_ := ⟨_, rfl⟩
          replace H : (if 0 ≤ (ji93) then (if (ji93) ≤ (x8_2.length : Int) then ((some (x8_2.take ((ji93) : Int).toNat : List Int)).bind fun y424 => (impl_grid_regions.l4 k3 a2 (ji93) x8_2 x14_3 x96_3 y421 (ji93) x96_3 y424 (y424.length : Int) 0)) else (none)) else (none)) = some r := by first | (rw [hji93] at H; exact H) | (simp only [hji93] at H ⊢; exact H)
          (try rw [hji93] at c8b0)
          (try rw [hji93] at c11b0)
          (try rw [hji93] at c92b0)
          have hji93w : (IntKind.i64.wrap (a0_0 * a0_1)) = ji93 := (i64_w _).trans hji93
          by_cases c94 : 0 ≤ (ji93)
          ·rw [if_pos c94] at H
           have c94b0 := eq_true c94
           have c94b1 : decide (0 ≤ (ji93)) = true := decide_eq_true c94
           clear c94
           by_cases c95 : (ji93) ≤ (x8_2.length : Int)
           ·rw [if_pos c95] at H
            have c95b0 := eq_true c95
            have c95b1 : decide ((ji93) ≤ (x8_2.length : Int)) = true := decide_eq_true c95
            clear c95
            obtain ⟨y424, hy424⟩ : ∃ y_ : List Int, y_ = (x8_2.take ((ji93) : Int).toNat) := ⟨_, rfl⟩
            replace H : (impl_grid_regions.l4 k3 a2 (ji93) x8_2 x14_3 x96_3 y421 (ji93) x96_3 y424 (y424.length : Int) 0) = some r := by first | (rw [hy424]; with_reducible exact H) | (have H2_ := (Option.bind_some _ _).symm.trans H; rw [hy424]; with_reducible exact H2_) | (have H2_ := (Option.bind_some _ _).symm.trans H; with_reducible exact H2_) | with_reducible exact H | (rw [hy424]; exact H) | exact H
            have Ny424 := Aside0.mk hy424
            clear hy424
            have H' := Aside0.mk H
            clear H
            go_wp2_with (first | ((with_reducible refine gate_dst (N := 99) rfl ?_); (try (refine gate_guard (by rfl) ?_; dsimp only)); refine Kd.R_lit (Kd.int .i64) _ 3 ?hg (N := 99) ?hd (xs := ([] : List Int)) (inner := []) (ok := fun _ => True) (okp := fun _ => True) ?hr ?hp (fun _ hk => hk) trivial (Below.refl _ _) (Nat.le_refl _) (by simp) ?_; (case hd => rfl); (case hg => rfl); (case hr => first | (go_simp; done) | (go_simp; rfl)); (case hp => exact (Reps.none _ _)); intro v422 w96 ho97 hb hg_ hnew_; clear hg_ hnew_; (first | rw [← Ny421.out] at ho97 | (simp only [Int.reduceToNat] at ho97; rw [← Ny421.out] at ho97)); have n0_ := Aside0.mk (Kd.R_elder' (kr_ HO_8.out) (Kd.R_base ho97) hb); have n1_ := Aside0.mk (Kd.S_elder' (by (with_reducible repeat (first | apply Kd.S_alloc | apply Kd.S_drewN | apply Kd.S_drew)); exact HO_14.out) (Kd.R_base ho97) hb); have n2_ := Aside0.mk (Kd.R_lower (Kd.R_new' ho97 (Kd.R_lt (kr_ HO_8.out))) (below_size (bl1_ HB.out GE391.out))); have n3_ := Aside0.mk (bb_ BK391.out hb); have n4_ := Aside0.mk (below_step (bl1_ HB.out GE391.out) hb); clear HO_8; clear HO_14; clear BK391; clear HB; have HO_8 := n0_; have HO_14 := n1_; have HO423 := n2_; have BK391 := n3_; have HB := n4_; clear n0_ n1_ n2_ n3_ n4_; clear hb ho97; obtain ⟨Ao99, co99, eo99⟩ := Kd.R_slice HO_8.out; subst eo99; have q98 : ((ji93) : Int) ≤ ((x8_2.length : Int) : Int) := of_decide_eq_true as_; obtain ⟨i098, hi098, _, hsz98, _⟩ := info_parts info3; have hroom98 : x8_2.length ≤ co99 := (Kd.R_reads' HO_8.out).2.1; have hC98 : Kd.C (Kd.int .i64) _ Ao99 x8_2.length x8_2 := (Kd.R_reads' HO_8.out).2.2; have hcut98 := cut_to (P := Try.prog) 22 3 .i64 Try.underlying22 hi098 Ao99 x8_2.length co99 (ji93) (of_decide_eq_true as_) q98 hroom98; have hr98 := Kd.C_take (m := ((ji93) : Int).toNat) hC98 (by omega); have hy98 : y424.length = ((ji93) : Int).toNat := (by rw [Ny424.out, List.length_take]; omega); rw [← Ny424.out] at hr98; rw [← hy98] at hcut98; have HR427 := Aside0.mk hr98; have HC427 := Aside0.mk (show y424.length ≤ co99 from by omega); clear hr98 hC98 hroom98 hi098 hsz98; have KY98 := Aside0.mk hy98; clear hy98; have KL98 := Aside0.mk (show ((ji93) : Int).toNat ≤ x8_2.length from by omega); replace q98 := eq_true q98))
            go_loopg [16, 104] k3 (fun kq v16 v104 w' => ∃ (x16_4 : List Int) (x104_4 : Int), v104 = .int .i64 x104_4 ∧ Aside0 (impl_grid_regions.l4 kq a2 (ji93) x8_2 x14_3 x96_3 x16_4 (ji93) x96_3 y424 (y424.length : Int) x104_4 = some r) ∧ Aside0 (kq ≤ k3) ∧ Aside0 (Kd.R (Kd.int .i64) 3 w' w.heap.size (fun k_ => some k_ ≠ (v16 : Value).ownBlock) (.slice Ao99 x8_2.length co99) x8_2) ∧ Aside0 (Kd.S (Kd.slice 3 (Kd.int .i64)) 22 w' w.heap.size (fun k_ => some k_ ≠ ((.slice Ao99 x8_2.length co99) : Value).ownBlock ∧ some k_ ≠ (v16 : Value).ownBlock) u14 x14_3) ∧ Aside0 (Kd.R (Kd.int .i64) 3 w' w.heap.size (fun k_ => some k_ ≠ ((.slice Ao99 x8_2.length co99) : Value).ownBlock) v16 x16_4) ∧ Aside0 (w'.heap[gb391]? = some (.cells #[.int .i64 a0_0, .int .i64 a0_1] 67 (0, 0))) ∧ Aside0 (Kd.C (Kd.int .i64) w' Ao99 y424.length y424) ∧ Aside0 (Below w.heap.size w w'))
            case atStart => exact ⟨(y421), (0), rs_, H', ⟨Nat.le_refl _⟩, ⟨by (with_reducible repeat (first | apply Kd.R_alloc | apply Kd.R_drewN | apply Kd.R_drew)); exact Kd.R_mono HO_8.out (fun _ hk => hk.2)⟩, ⟨by (with_reducible repeat (first | apply Kd.S_alloc | apply Kd.S_drewN | apply Kd.S_drew)); exact HO_14.out⟩, ⟨by (with_reducible repeat (first | apply Kd.R_alloc | apply Kd.R_drewN | apply Kd.R_drew)); exact Kd.R_mono HO423.out (fun _ hk => hk.2)⟩, ⟨bk_ BK391.out⟩, ⟨by repeat (first | (with_reducible exact HR427.out) | (with_reducible refine Kd.C_alloc ?_ _) | (with_reducible refine Kd.C_drewN ?_ _) | (with_reducible refine Kd.C_drew ?_) | exact HR427.out)⟩, ⟨bl1_ HB.out GE391.out⟩⟩
            case round =>
             clear H'
             try clear c1
             try clear c2
             try clear p2
             try clear c4
             try clear p4
             try clear q4
             try clear hx4
             try clear c5
             try clear p5
             try clear q5
             try clear hx5
             try clear hf5
             try clear c6
             try clear p6
             try clear q6
             try clear hx6
             try clear hf6
             try clear c7
             try clear c8
             try clear c8b0
             try clear p8
             try clear q8
             try clear hx8
             try clear hf8
             try clear c9
             try clear q9
             try clear c11
             try clear c11b0
             try clear c17
             try clear c17b0
             try clear c23
             try clear c23b0
             try clear c24
             try clear c27
             try clear p40
             try clear q40
             try clear hx40
             try clear p41
             try clear q41
             try clear hx41
             try clear c43
             try clear c43b0
             try clear c43b1
             try clear c44
             try clear c44b0
             try clear c45
             try clear c45b0
             try clear c47
             try clear c47b0
             try clear c48
             try clear c48b0
             try clear p50
             try clear q50
             try clear hx50
             try clear hf50
             try clear p51
             try clear q51
             try clear hx51
             try clear hf51
             try clear c58
             try clear c58b0
             try clear c58b1
             try clear c60
             try clear c60b0
             try clear c60b1
             try clear c61
             try clear c62
             try clear c62b0
             try clear c63
             try clear c63b0
             try clear c64
             try clear c64b0
             try clear p64
             try clear c65
             try clear c65b0
             try clear p67
             try clear q67
             try clear hx67
             try clear hf67
             try clear p68
             try clear q68
             try clear hx68
             try clear hf68
             try clear c76
             try clear c76b0
             try clear c76b1
             try clear c77
             try clear c77b0
             try clear c78
             try clear c78b0
             try clear c79
             try clear c79b0
             try clear c80
             try clear c80b0
             try clear p82
             try clear q82
             try clear hx82
             try clear hf82
             try clear p83
             try clear q83
             try clear hx83
             try clear hf83
             try clear c92
             try clear c92b0
             try clear c94
             try clear c94b0
             try clear c94b1
             try clear c95
             try clear c95b0
             try clear c95b1
             try clear q98
             try clear hx406_0
             try clear hx407_0
             try clear hx410_0
             try clear hx411_0
             try clear hx414_0
             try clear hx415_0
             try clear hx50_0
             try clear hx51_0
             try clear hx67_0
             try clear hx68_0
             try clear hx82_0
             try clear hx83_0
             try clear p2
             try clear p4
             try clear p40
             try clear p406
             try clear p407
             try clear p41
             try clear p410
             try clear p411
             try clear p414
             try clear p415
             try clear p5
             try clear p50
             try clear p51
             try clear p6
             try clear p64
             try clear p67
             try clear p68
             try clear p8
             try clear p82
             try clear p83
             try clear q4
             try clear q40
             try clear q406
             try clear q407
             try clear q41
             try clear q410
             try clear q411
             try clear q414
             try clear q415
             try clear q5
             try clear q50
             try clear q51
             try clear q6
             try clear q67
             try clear q68
             try clear q8
             try clear q82
             try clear q83
             try clear q98
             obtain ⟨x16_4, x104_4, rfl, HA, HK4, HO_8, HO_14, HO_16, BK391, HR427, HB⟩ := hrel
             cases gk with
             | zero => exact absurd HA.out (by simp [impl_grid_regions.l4])
             | succ k4 =>
              have H := HA.out
              clear HA
              simp only [impl_grid_regions.l4] at H
              by_cases c100 : x104_4 < (y424.length : Int)
              ·rw [if_pos c100] at H
               have c100b0 : decide (x104_4 < (y424.length : Int)) = true := decide_eq_true c100
               clear c100
               by_cases c101 : 0 ≤ x104_4
               ·rw [if_pos c101] at H
                have c101b0 : decide (0 ≤ x104_4) = true := decide_eq_true c101
                clear c101
                by_cases c102 : x104_4 < (y424.length : Int)
                ·rw [if_pos c102] at H
                 have c102b0 : decide (x104_4 < (y424.length : Int)) = true := decide_eq_true c102
                 clear c102
                 by_cases c103 : (rd y424 x104_4) = x96_3
                 ·rw [if_pos c103] at H
                  have c103b0 : ((rd y424 x104_4) == x96_3) = true := beq_iff_eq.mpr c103
                  have c103b1 : ((rd y424 x104_4) != x96_3) = false := bne_eq_false_iff_eq.mpr c103
                  clear c103
                  by_cases c104 : x16_4.length < 17592186044416
                  ·rw [if_pos c104] at H
                   have LMc104 := Aside0.mk c104
                   clear c104
                   obtain ⟨y429, hy429⟩ : ∃ y_ : List Int, y_ = (x16_4 ++ [x104_4]) := ⟨_, rfl⟩
                   replace H : (impl_grid_regions.l4 k4 a2 (ji93) x8_2 x14_3 x96_3 y429 (ji93) x96_3 y424 (y424.length : Int) (wrap64 (x104_4 + 1))) = some r := by first | (rw [hy429]; with_reducible exact H) | (have H2_ := (Option.bind_some _ _).symm.trans H; rw [hy429]; with_reducible exact H2_) | (have H2_ := (Option.bind_some _ _).symm.trans H; with_reducible exact H2_) | with_reducible exact H | (rw [hy429]; exact H) | exact H
                   have Ny429 := Aside0.mk hy429
                   clear hy429
                   have H' := Aside0.mk H
                   clear H
                   have p428 : 0 ≤ (x104_4 : Int) := of_decide_eq_true as_
                   have q428 : x104_4 < (y424.length : Int) := of_decide_eq_true as_
                   obtain ⟨ad428, e428, hx428_0⟩ := Kd.at_int HR427.out x104_4 p428 q428
                   cases e428
                   (try (replace hx428_0 := (HB.out.cell (World.block_lt_of_cell? w _ hx428_0)).trans hx428_0))
                   replace p428 := eq_true p428
                   replace q428 := eq_true q428
                   go_wp2_with (first | ((with_reducible refine gate_builtin (b := .append) (xs := #[.tmp 112, .tmp 114]) rfl ?_); (try (refine gate_guard (by rfl) ?_; dsimp only)); at_builtin; refine Kd.R_append (Kd.int .i64) (w0 := w) w.heap.size rfl (.tmp 112) (.tmp 114) 22 3 (.int .i64 0) 8 rfl Try.underlying22 info3 rfl (by decide) (by omega) u16 x16_4 x104_4 [.int .i64 x104_4] (fun k_ => some k_ ≠ (.slice (some ad428) x8_2.length co99 : Value).ownBlock) (fun _ => False) rfl rfl ?aP (fun _ hk => hk.elim) ?aF ?aO ?aB ?aS ?aL ?_; (case aP => exact rfl); (case aB => exact (bl1_ HB.out GE391.out)); (case aF => exact (fun k_ hk => Kd.fresh' (Kd.R_lt (kr_ HO_8.out)) k_ hk)); (case aO => exact (kr_ HO_16.out)); (case aS => exact (below_size (bl1_ HB.out GE391.out))); (case aL => have := LMc104.out; omega); intro v430 w105 ho hb hg hat; rw [← Ny429.out] at ho; have n0_ := Aside0.mk (Kd.R_after (ok := (fun _ => True)) (by (with_reducible repeat (first | apply Kd.R_alloc | apply Kd.R_drewN | apply Kd.R_drew)); exact Kd.R_mono HO_8.out (fun _ hk => ⟨trivial, hk⟩)) hg hat); have n1_ := Aside0.mk (Kd.S_after (ok := (fun k_ => some k_ ≠ (.slice (some ad428) x8_2.length co99 : Value).ownBlock)) (by (with_reducible repeat (first | apply Kd.S_alloc | apply Kd.S_drewN | apply Kd.S_drew)); exact HO_14.out) hg hat); have n2_ := Aside0.mk (blk_grown (g := gb391) (o := .cells #[.int .i64 a0_0, .int .i64 a0_1] 67 (0, 0)) (bk_ BK391.out) hg (Kd.R_ne HO_16.out BK391.out (by decide))); have n3_ := Aside0.mk (hb); have n4_ := Aside0.mk ((show Kd.C (Kd.int .i64) w105 (some ad428) y424.length y424 from by rw [Ny424.out]; exact Kd.C_take (m := ((ji93) : Int).toNat) ((Kd.R_reads' (Kd.R_after (ok := (fun _ => True)) (by (with_reducible repeat (first | apply Kd.R_alloc | apply Kd.R_drewN | apply Kd.R_drew)); exact Kd.R_mono HO_8.out (fun _ hk => ⟨trivial, hk⟩)) hg hat)).2.2) KL98.out)); have n5_ := Aside0.mk (ho); clear HO_8; clear HO_14; clear BK391; clear HB; clear HR427; clear HO_16; have HO_8 := n0_; have HO_14 := n1_; have BK391 := n2_; have HB := n3_; have HR427 := n4_; have HO431 := n5_; clear n0_ n1_ n2_ n3_ n4_ n5_; clear ho hb hg hat))
                   (try subst hji93)
                   go_roundg k4
                   case measure => have := HK1.out; have := HK2.out; have := HK3.out; have := HK4.out; omega
                   case rel => exact ⟨(y429), (wrap64 (x104_4 + 1)), rs_, H', ⟨by have := HK1.out; have := HK2.out; have := HK3.out; have := HK4.out; omega⟩, ⟨by (with_reducible repeat (first | apply Kd.R_alloc | apply Kd.R_drewN | apply Kd.R_drew)); exact Kd.R_mono HO_8.out (fun _ hk => hk.2)⟩, ⟨by (with_reducible repeat (first | apply Kd.S_alloc | apply Kd.S_drewN | apply Kd.S_drew)); exact HO_14.out⟩, ⟨kr_ HO431.out⟩, ⟨bk_ BK391.out⟩, ⟨by repeat (first | (with_reducible exact HR427.out) | (with_reducible refine Kd.C_alloc ?_ _) | (with_reducible refine Kd.C_drewN ?_ _) | (with_reducible refine Kd.C_drew ?_) | exact HR427.out)⟩, ⟨bl1_ HB.out GE391.out⟩⟩
                  ·rw [if_neg c104] at H
                   exact absurd H (by simp)
                 ·rw [if_neg c103] at H
                  have c103b0 : ((rd y424 x104_4) == x96_3) = false := beq_eq_false_iff_ne.mpr c103
                  have c103b1 : ((rd y424 x104_4) != x96_3) = true := bne_iff_ne.mpr c103
                  have H' := Aside0.mk H
                  clear H
                  have p428 : 0 ≤ (x104_4 : Int) := of_decide_eq_true as_
                  have q428 : x104_4 < (y424.length : Int) := of_decide_eq_true as_
                  obtain ⟨ad428, e428, hx428_0⟩ := Kd.at_int HR427.out x104_4 p428 q428
                  cases e428
                  (try (replace hx428_0 := (HB.out.cell (World.block_lt_of_cell? w _ hx428_0)).trans hx428_0))
                  replace p428 := eq_true p428
                  replace q428 := eq_true q428
                  go_wp2
                  (try subst hji93)
                  go_roundg k4
                  case measure => have := HK1.out; have := HK2.out; have := HK3.out; have := HK4.out; omega
                  case rel => exact ⟨(x16_4), (wrap64 (x104_4 + 1)), rs_, H', ⟨by have := HK1.out; have := HK2.out; have := HK3.out; have := HK4.out; omega⟩, ⟨kr_ HO_8.out⟩, ⟨by (with_reducible repeat (first | apply Kd.S_alloc | apply Kd.S_drewN | apply Kd.S_drew)); exact HO_14.out⟩, ⟨kr_ HO_16.out⟩, ⟨bk_ BK391.out⟩, ⟨by repeat (first | (with_reducible exact HR427.out) | (with_reducible refine Kd.C_alloc ?_ _) | (with_reducible refine Kd.C_drewN ?_ _) | (with_reducible refine Kd.C_drew ?_) | exact HR427.out)⟩, ⟨bl1_ HB.out GE391.out⟩⟩
                ·rw [if_neg c102] at H
                 exact absurd H (by simp)
               ·rw [if_neg c101] at H
                exact absurd H (by simp)
              ·rw [if_neg c100] at H
               have c100b0 : decide (x104_4 < (y424.length : Int)) = false := decide_eq_false c100
               clear c100
               by_cases c106 : (x16_4.length : Int) > 0
               ·rw [if_pos c106] at H
                have c106b0 : decide (0 < (x16_4.length : Int)) = true := decide_eq_true c106
                have c106b1 : decide (0 < x16_4.length) = true := decide_eq_true (by omega)
                clear c106
                by_cases c107 : a2 = true
                ·subst c107
                 have H1 : (if 0 ≤ (ji93) then (if (ji93) < (x8_2.length : Int) then (if ((rd x8_2 (ji93)) = x96_3) then (impl_grid_regions.l3 k4 true (ji93) x8_2 x14_3 (ji93) (wrap64 (x96_3 + 1))) else (if x14_3.length < 5864062014805 then (impl_grid_regions.l3 k4 true (ji93) x8_2 (x14_3 ++ [x16_4]) (ji93) (wrap64 (x96_3 + 1))) else (none))) else (none)) else (none)) = some r := by rw [if_pos rfl] at H; exact H
                 clear H
                 have H := H1
                 clear H1
                 by_cases c108 : 0 ≤ (ji93)
                 ·rw [if_pos c108] at H
                  have c108b0 : decide (0 ≤ (ji93)) = true := decide_eq_true c108
                  clear c108
                  by_cases c109 : (ji93) < (x8_2.length : Int)
                  ·rw [if_pos c109] at H
                   have c109b0 : decide ((ji93) < (x8_2.length : Int)) = true := decide_eq_true c109
                   clear c109
                   by_cases c110 : ((rd x8_2 (ji93)) = x96_3)
                   ·rw [if_pos c110] at H
                    have c110b0 : ((rd x8_2 (ji93)) == x96_3) = true := beq_iff_eq.mpr c110
                    have c110b1 : ((rd x8_2 (ji93)) != x96_3) = false := bne_eq_false_iff_eq.mpr c110
                    clear c110
                    have H' := Aside0.mk H
                    clear H
                    obtain ⟨Ao111, co111, eo111⟩ := Kd.R_slice HO_16.out
                    subst eo111
                    have p432 : 0 ≤ ((ji93) : Int) := of_decide_eq_true as_
                    have q432 : (ji93) < (x8_2.length : Int) := of_decide_eq_true as_
                    obtain ⟨ad432, e432, hx432_0⟩ := Kd.at_int (Kd.R_reads' HO_8.out).2.2 (ji93) p432 q432
                    cases e432
                    replace p432 := eq_true p432
                    replace q432 := eq_true q432
                    go_wp2
                    (try subst hji93)
                    go_roundg k4
                    case measure => have := HK1.out; have := HK2.out; have := HK3.out; have := HK4.out; omega
                    case rel => exact ⟨(x14_3), (wrap64 (x96_3 + 1)), rs_, H', ⟨by have := HK1.out; have := HK2.out; have := HK3.out; have := HK4.out; omega⟩, ⟨by (with_reducible repeat (first | apply Kd.R_alloc | apply Kd.R_drewN | apply Kd.R_drew)); exact Kd.R_mono HO_8.out (fun _ hk => trivial)⟩, ⟨by (with_reducible repeat (first | apply Kd.S_alloc | apply Kd.S_drewN | apply Kd.S_drew)); exact Kd.S_mono HO_14.out (fun _ hk => hk.1)⟩, ⟨bk_ BK391.out⟩, ⟨bl1_ HB.out GE391.out⟩⟩
                   ·rw [if_neg c110] at H
                    have c110b0 : ((rd x8_2 (ji93)) == x96_3) = false := beq_eq_false_iff_ne.mpr c110
                    have c110b1 : ((rd x8_2 (ji93)) != x96_3) = true := bne_iff_ne.mpr c110
                    by_cases c112 : x14_3.length < 5864062014805
                    ·rw [if_pos c112] at H
                     have LMc112 := Aside0.mk c112
                     clear c112
                     obtain ⟨y433, hy433⟩ : ∃ y_ : List (List Int), y_ = (x14_3 ++ [x16_4]) := ⟨_, rfl⟩
                     replace H : (impl_grid_regions.l3 k4 true (ji93) x8_2 y433 (ji93) (wrap64 (x96_3 + 1))) = some r := by first | (rw [hy433]; with_reducible exact H) | (have H2_ := (Option.bind_some _ _).symm.trans H; rw [hy433]; with_reducible exact H2_) | (have H2_ := (Option.bind_some _ _).symm.trans H; with_reducible exact H2_) | with_reducible exact H | (rw [hy433]; exact H) | exact H
                     have Ny433 := Aside0.mk hy433
                     clear hy433
                     have H' := Aside0.mk H
                     clear H
                     obtain ⟨Ao113, co113, eo113⟩ := Kd.R_slice HO_16.out
                     subst eo113
                     have p432 : 0 ≤ ((ji93) : Int) := of_decide_eq_true as_
                     have q432 : (ji93) < (x8_2.length : Int) := of_decide_eq_true as_
                     obtain ⟨ad432, e432, hx432_0⟩ := Kd.at_int (Kd.R_reads' HO_8.out).2.2 (ji93) p432 q432
                     cases e432
                     replace p432 := eq_true p432
                     replace q432 := eq_true q432
                     go_wp2_with (first | ((with_reducible refine gate_builtin (b := .append) (xs := #[.tmp 132, .tmp 134]) rfl ?_); (try (refine gate_guard (by rfl) ?_; dsimp only)); at_builtin; refine Kd.S_append (Kd.slice 3 (Kd.int .i64)) (w0 := w) w.heap.size rfl (.tmp 132) (.tmp 134) 32 22 (.slice none 0 0) 24 rfl Try.underlying32 info22 rfl (by decide) (by omega) u14 x14_3 x16_4 [.slice Ao113 x16_4.length co113] (fun k_ => some k_ ≠ (.slice (some ad432) x8_2.length co99 : Value).ownBlock) (fun k_ => some k_ = (.slice Ao113 x16_4.length co113 : Value).ownBlock) rfl rfl ?aP (fun k_ hk_ => ((Kd.R_mono (ok' := fun k_ => ((fun k_ => some k_ ≠ (.slice (some ad432) x8_2.length co99 : Value).ownBlock)) k_ ∧ some k_ ≠ (u14 : Value).ownBlock) (Kd.R_apart' (HO_16.out) (Kd.S_typed HO_14.out) (by decide)) (fun k_ hk => ⟨hk.1, hk.2⟩))).1 k_ hk_.symm) ?aF ?aO ?aB ?aS ?aL ?_; (case aP => exact Kd.M_row (Kd.R_mono (Kd.R_tight rfl (Kd.R_mono (ok' := fun k_ => ((fun k_ => some k_ ≠ (.slice (some ad432) x8_2.length co99 : Value).ownBlock)) k_ ∧ some k_ ≠ (u14 : Value).ownBlock) (Kd.R_apart' (HO_16.out) (Kd.S_typed HO_14.out) (by decide)) (fun k_ hk => ⟨hk.1, hk.2⟩))) (fun _ h_ => h_))); (case aB => exact (bl1_ HB.out GE391.out)); (case aF => exact (fun k_ hk => Kd.fresh' (Kd.R_lt (kr_ HO_8.out)) k_ hk)); (case aO => exact (by (with_reducible repeat (first | apply Kd.S_alloc | apply Kd.S_drewN | apply Kd.S_drew)); exact Kd.S_mono HO_14.out (fun k_ hk => ⟨hk.1, fun e_ => hk.2 e_⟩))); (case aS => exact (below_size (bl1_ HB.out GE391.out))); (case aL => have := LMc112.out; omega); intro v434 w114 ho hb hg hat; rw [← Ny433.out] at ho; have n0_ := Aside0.mk (Kd.R_over' (kr_ HO_8.out) (Kd.S_typed (by (with_reducible repeat (first | apply Kd.S_alloc | apply Kd.S_drewN | apply Kd.S_drew)); exact HO_14.out)) (by decide) hg); have n1_ := Aside0.mk (blk_grown (g := gb391) (o := .cells #[.int .i64 a0_0, .int .i64 a0_1] 67 (0, 0)) (bk_ BK391.out) hg (Kd.S_ne HO_14.out BK391.out (by decide))); have n2_ := Aside0.mk (hb); have n3_ := Aside0.mk ((show Kd.C (Kd.int .i64) w114 (some ad432) y424.length y424 from by rw [Ny424.out]; exact Kd.C_take (m := ((ji93) : Int).toNat) ((Kd.R_reads' (Kd.R_over' (kr_ HO_8.out) (Kd.S_typed (by (with_reducible repeat (first | apply Kd.S_alloc | apply Kd.S_drewN | apply Kd.S_drew)); exact HO_14.out)) (by decide) hg)).2.2) KL98.out)); have n4_ := Aside0.mk (ho); clear HO_8; clear BK391; clear HB; clear HR427; clear HO_14; clear HO_16; have HO_8 := n0_; have BK391 := n1_; have HB := n2_; have HR427 := n3_; have HO435 := n4_; clear n0_ n1_ n2_ n3_ n4_; clear ho hb hg hat))
                     (try subst hji93)
                     go_roundg k4
                     case measure => have := HK1.out; have := HK2.out; have := HK3.out; have := HK4.out; omega
                     case rel => exact ⟨(y433), (wrap64 (x96_3 + 1)), rs_, H', ⟨by have := HK1.out; have := HK2.out; have := HK3.out; have := HK4.out; omega⟩, ⟨by (with_reducible repeat (first | apply Kd.R_alloc | apply Kd.R_drewN | apply Kd.R_drew)); exact Kd.R_mono HO_8.out (fun _ hk => trivial)⟩, ⟨by (with_reducible repeat (first | apply Kd.S_alloc | apply Kd.S_drewN | apply Kd.S_drew)); exact HO435.out⟩, ⟨bk_ BK391.out⟩, ⟨bl1_ HB.out GE391.out⟩⟩
                    ·rw [if_neg c112] at H
                     exact absurd H (by simp)
                  ·rw [if_neg c109] at H
                   exact absurd H (by simp)
                 ·rw [if_neg c108] at H
                  exact absurd H (by simp)
                ·replace c107 := Bool.eq_false_iff.mpr c107
                 subst c107
                 have H1 : (if x14_3.length < 5864062014805 then (impl_grid_regions.l3 k4 false (ji93) x8_2 (x14_3 ++ [x16_4]) (ji93) (wrap64 (x96_3 + 1))) else (none)) = some r := by rw [if_neg (show ¬ (false = true) by decide)] at H; exact H
                 clear H
                 have H := H1
                 clear H1
                 by_cases c115 : x14_3.length < 5864062014805
                 ·rw [if_pos c115] at H
                  have LMc115 := Aside0.mk c115
                  clear c115
                  obtain ⟨y436, hy436⟩ : ∃ y_ : List (List Int), y_ = (x14_3 ++ [x16_4]) := ⟨_, rfl⟩
                  replace H : (impl_grid_regions.l3 k4 false (ji93) x8_2 y436 (ji93) (wrap64 (x96_3 + 1))) = some r := by first | (rw [hy436]; with_reducible exact H) | (have H2_ := (Option.bind_some _ _).symm.trans H; rw [hy436]; with_reducible exact H2_) | (have H2_ := (Option.bind_some _ _).symm.trans H; with_reducible exact H2_) | with_reducible exact H | (rw [hy436]; exact H) | exact H
                  have Ny436 := Aside0.mk hy436
                  clear hy436
                  have H' := Aside0.mk H
                  clear H
                  obtain ⟨Ao116, co116, eo116⟩ := Kd.R_slice HO_16.out
                  subst eo116
                  go_wp2_with (first | ((with_reducible refine gate_builtin (b := .append) (xs := #[.tmp 132, .tmp 134]) rfl ?_); (try (refine gate_guard (by rfl) ?_; dsimp only)); at_builtin; refine Kd.S_append (Kd.slice 3 (Kd.int .i64)) (w0 := w) w.heap.size rfl (.tmp 132) (.tmp 134) 32 22 (.slice none 0 0) 24 rfl Try.underlying32 info22 rfl (by decide) (by omega) u14 x14_3 x16_4 [.slice Ao116 x16_4.length co116] (fun k_ => some k_ ≠ (.slice Ao99 x8_2.length co99 : Value).ownBlock) (fun k_ => some k_ = (.slice Ao116 x16_4.length co116 : Value).ownBlock) rfl rfl ?aP (fun k_ hk_ => ((Kd.R_mono (ok' := fun k_ => ((fun k_ => some k_ ≠ (.slice Ao99 x8_2.length co99 : Value).ownBlock)) k_ ∧ some k_ ≠ (u14 : Value).ownBlock) (Kd.R_apart' (HO_16.out) (Kd.S_typed HO_14.out) (by decide)) (fun k_ hk => ⟨hk.1, hk.2⟩))).1 k_ hk_.symm) ?aF ?aO ?aB ?aS ?aL ?_; (case aP => exact Kd.M_row (Kd.R_mono (Kd.R_tight rfl (Kd.R_mono (ok' := fun k_ => ((fun k_ => some k_ ≠ (.slice Ao99 x8_2.length co99 : Value).ownBlock)) k_ ∧ some k_ ≠ (u14 : Value).ownBlock) (Kd.R_apart' (HO_16.out) (Kd.S_typed HO_14.out) (by decide)) (fun k_ hk => ⟨hk.1, hk.2⟩))) (fun _ h_ => h_))); (case aB => exact (bl1_ HB.out GE391.out)); (case aF => exact (fun k_ hk => Kd.fresh' (Kd.R_lt (kr_ HO_8.out)) k_ hk)); (case aO => exact (by (with_reducible repeat (first | apply Kd.S_alloc | apply Kd.S_drewN | apply Kd.S_drew)); exact Kd.S_mono HO_14.out (fun k_ hk => ⟨hk.1, fun e_ => hk.2 e_⟩))); (case aS => exact (below_size (bl1_ HB.out GE391.out))); (case aL => have := LMc115.out; omega); intro v437 w117 ho hb hg hat; rw [← Ny436.out] at ho; have n0_ := Aside0.mk (Kd.R_over' (kr_ HO_8.out) (Kd.S_typed (by (with_reducible repeat (first | apply Kd.S_alloc | apply Kd.S_drewN | apply Kd.S_drew)); exact HO_14.out)) (by decide) hg); have n1_ := Aside0.mk (blk_grown (g := gb391) (o := .cells #[.int .i64 a0_0, .int .i64 a0_1] 67 (0, 0)) (bk_ BK391.out) hg (Kd.S_ne HO_14.out BK391.out (by decide))); have n2_ := Aside0.mk (hb); have n3_ := Aside0.mk ((show Kd.C (Kd.int .i64) w117 Ao99 y424.length y424 from by rw [Ny424.out]; exact Kd.C_take (m := ((ji93) : Int).toNat) ((Kd.R_reads' (Kd.R_over' (kr_ HO_8.out) (Kd.S_typed (by (with_reducible repeat (first | apply Kd.S_alloc | apply Kd.S_drewN | apply Kd.S_drew)); exact HO_14.out)) (by decide) hg)).2.2) KL98.out)); have n4_ := Aside0.mk (ho); clear HO_8; clear BK391; clear HB; clear HR427; clear HO_14; clear HO_16; have HO_8 := n0_; have BK391 := n1_; have HB := n2_; have HR427 := n3_; have HO438 := n4_; clear n0_ n1_ n2_ n3_ n4_; clear ho hb hg hat))
                  (try subst hji93)
                  go_roundg k4
                  case measure => have := HK1.out; have := HK2.out; have := HK3.out; have := HK4.out; omega
                  case rel => exact ⟨(y436), (wrap64 (x96_3 + 1)), rs_, H', ⟨by have := HK1.out; have := HK2.out; have := HK3.out; have := HK4.out; omega⟩, ⟨by (with_reducible repeat (first | apply Kd.R_alloc | apply Kd.R_drewN | apply Kd.R_drew)); exact Kd.R_mono HO_8.out (fun _ hk => trivial)⟩, ⟨by (with_reducible repeat (first | apply Kd.S_alloc | apply Kd.S_drewN | apply Kd.S_drew)); exact HO438.out⟩, ⟨bk_ BK391.out⟩, ⟨bl1_ HB.out GE391.out⟩⟩
                 ·rw [if_neg c115] at H
                  exact absurd H (by simp)
               ·rw [if_neg c106] at H
                have c106b0 : decide (0 < (x16_4.length : Int)) = false := decide_eq_false c106
                have c106b1 : decide (0 < x16_4.length) = false := decide_eq_false (by omega)
                clear c106
                have H' := Aside0.mk H
                clear H
                obtain ⟨Ao118, co118, eo118⟩ := Kd.R_slice HO_16.out
                subst eo118
                go_wp2
                (try subst hji93)
                go_roundg k4
                case measure => have := HK1.out; have := HK2.out; have := HK3.out; have := HK4.out; omega
                case rel => exact ⟨(x14_3), (wrap64 (x96_3 + 1)), rs_, H', ⟨by have := HK1.out; have := HK2.out; have := HK3.out; have := HK4.out; omega⟩, ⟨by (with_reducible repeat (first | apply Kd.R_alloc | apply Kd.R_drewN | apply Kd.R_drew)); exact Kd.R_mono HO_8.out (fun _ hk => trivial)⟩, ⟨by (with_reducible repeat (first | apply Kd.S_alloc | apply Kd.S_drewN | apply Kd.S_drew)); exact Kd.S_mono HO_14.out (fun _ hk => hk.1)⟩, ⟨bk_ BK391.out⟩, ⟨bl1_ HB.out GE391.out⟩⟩
           ·rw [if_neg c95] at H
            exact absurd H (by simp)
          ·rw [if_neg c94] at H
           exact absurd H (by simp)
         ·rw [if_neg c92] at H
          have c92b0 : decide (x96_3 < (wrap64 (a0_0 * a0_1))) = false := decide_eq_false c92
          clear c92
          obtain rfl := Option.some.inj H
          go_wp2
          go_ret
          exact ⟨_, er_, by (with_reducible repeat (first | apply Kd.S_alloc | apply Kd.S_drewN | apply Kd.S_drew)); exact Kd.S_mono HO_14.out (fun _ hk => trivial), bl1_ HB.out GE391.out⟩


def impl_RegionsOf.f (k : Nat) (a0_0 : Int) (a0_1 : Int) (l0_2 : List Int) (l0_3 : List Int) : Option ((List (List Int)) × Bool) := (impl_IsFigure.f k a0_0 a0_1 l0_2 l0_3).bind fun t440 => (if t440 = true then ((impl_Figure_grid.f a0_0 a0_1 l0_2 l0_3).bind fun bt441 => ((impl_Figure_set.f k a0_0 a0_1 l0_2 l0_3).bind fun t443 => ((impl_grid_regions.f k bt441.1 bt441.2 t443 true).bind fun t444 => (some (t444, true))))) else (some (([] : List (List Int)), false)))
theorem impl_RegionsOf.mono : ∀ a0 a1 a2 a3 k, LeO (impl_RegionsOf.f k a0 a1 a2 a3) (impl_RegionsOf.f (k + 1) a0 a1 a2 a3) := by
 intro a0 a1 a2 a3 k
 unfold impl_RegionsOf.f
 repeat' first
   | (with_reducible exact impl_Figure_set.mono _ _ _ _ _)
   | (with_reducible exact impl_IsFigure.mono _ _ _ _ _)
   | (with_reducible exact impl_grid_regions.mono _ _ _ _ _)
   | (with_reducible exact LeO.refl _)
   | (with_reducible exact LeO.none _)
   | (with_reducible refine LeO.ite ?_ ?_)
   | (with_reducible refine LeO.bind ?_ (fun _ => ?_))
   | exact impl_Figure_set.mono _ _ _ _ _
   | exact impl_IsFigure.mono _ _ _ _ _
   | exact impl_grid_regions.mono _ _ _ _ _
   | exact LeO.none _
   | refine LeO.ite ?_ ?_
   | refine LeO.bind ?_ (fun _ => ?_)
set_option maxHeartbeats 8000000 in
set_option maxRecDepth 100000 in
theorem impl_RegionsOf.calls (k : Nat) (a0_0 : Int) (a0_1 : Int) (A0_2 : Option Addr) (c0_2 : Nat) (l0_2 : List Int) (A0_3 : Option Addr) (c0_3 : Nat) (l0_3 : List Int) (r1 : List (List Int)) (r2 : Bool) (w : World) (hr0_2 : Kd.C (Kd.int .i64) w A0_2 l0_2.length l0_2) (hc0_2 : l0_2.length ≤ c0_2) (hr0_3 : Kd.C (Kd.int .i64) w A0_3 l0_3.length l0_3) (hc0_3 : l0_3.length ≤ c0_3) (h : impl_RegionsOf.f k a0_0 a0_1 l0_2 l0_3 = some (r1, r2)) :
  Calls Try.prog 22 #[.agg #[.int .i64 a0_0, .int .i64 a0_1, .slice A0_2 l0_2.length c0_2, .slice A0_3 l0_3.length c0_3]] w fun e w' => ∃ v0_ : Value, e = .returned (.tuple #[v0_, .bool r2]) ∧ Kd.S (Kd.slice 3 (Kd.int .i64)) 22 w' w.heap.size (fun _ => True) v0_ r1 ∧ Below w.heap.size w w' := by
 have hu28 := Try.underlying28
 have HR0_2 := Aside0.mk hr0_2
 have HC0_2 := Aside0.mk hc0_2
 clear hr0_2 hc0_2
 have HR0_3 := Aside0.mk hr0_3
 have HC0_3 := Aside0.mk hc0_3
 clear hr0_3 hc0_3
 have HB := Aside0.mk (Below.refl w.heap.size w)
 have H : ((impl_IsFigure.f k a0_0 a0_1 l0_2 l0_3).bind fun t440 => (if t440 = true then ((impl_Figure_grid.f a0_0 a0_1 l0_2 l0_3).bind fun bt441 => ((impl_Figure_set.f k a0_0 a0_1 l0_2 l0_3).bind fun t443 => ((impl_grid_regions.f k bt441.1 bt441.2 t443 true).bind fun t444 => (some (t444, true))))) else (some (([] : List (List Int)), false)))) = some (r1, r2) := h
 clear h
 replace H := Option.bind_eq_some_iff.mp H
 obtain ⟨t440, A20, H⟩ := H
 replace H : (if t440 = true then ((impl_Figure_grid.f a0_0 a0_1 l0_2 l0_3).bind fun bt441 => ((impl_Figure_set.f k a0_0 a0_1 l0_2 l0_3).bind fun t443 => ((impl_grid_regions.f k bt441.1 bt441.2 t443 true).bind fun t444 => (some (t444, true))))) else (some (([] : List (List Int)), false))) = some (r1, r2) := H
 have A2 := Aside0.mk A20
 clear A20
 by_cases c3 : t440 = true
 ·subst c3
  have H1 : ((impl_Figure_grid.f a0_0 a0_1 l0_2 l0_3).bind fun bt441 => ((impl_Figure_set.f k a0_0 a0_1 l0_2 l0_3).bind fun t443 => ((impl_grid_regions.f k bt441.1 bt441.2 t443 true).bind fun t444 => (some (t444, true))))) = some (r1, r2) := by rw [if_pos rfl] at H; exact H
  clear H
  have H := H1
  clear H1
  replace H := Option.bind_eq_some_iff.mp H
  obtain ⟨⟨t441, t442⟩, A40, H⟩ := H
  replace H : ((impl_Figure_set.f k a0_0 a0_1 l0_2 l0_3).bind fun t443 => ((impl_grid_regions.f k t441 t442 t443 true).bind fun t444 => (some (t444, true)))) = some (r1, r2) := H
  have A4 := Aside0.mk A40
  clear A40
  replace H := Option.bind_eq_some_iff.mp H
  obtain ⟨t443, A50, H⟩ := H
  replace H : ((impl_grid_regions.f k t441 t442 t443 true).bind fun t444 => (some (t444, true))) = some (r1, r2) := H
  have A5 := Aside0.mk A50
  clear A50
  replace H := Option.bind_eq_some_iff.mp H
  obtain ⟨t444, A60, H⟩ := H
  replace H : (some (t444, true)) = some (r1, r2) := H
  have A6 := Aside0.mk A60
  clear A60
  simp only [Option.some.injEq, Prod.mk.injEq] at H
  obtain ⟨rfl, rfl⟩ := H
  go_enter Try.func22, Try.ntmps22
  try go_wp2_with (first | ((with_reducible refine gate_dst (N := 1) rfl ?_); refine boxE_ (N := 1) (cs := #[.int .i64 a0_0, .int .i64 a0_1, .slice A0_2 l0_2.length c0_2, .slice A0_3 l0_3.length c0_3]) (t := 28) ?_; intro gb439 hg w7 hbox hb; have n0_ := Aside0.mk (below_step (bl0_ HB.out) hb); have n1_ := Aside0.mk (hbox); have n2_ := Aside0.mk ((bs0_ hg HB.out : w.heap.size ≤ gb439)); have n3_ := Aside0.mk ((bs0_ hg HB.out : w.heap.size ≤ gb439)); clear HB; have HB := n0_; have BK439 := n1_; have GW439 := n2_; have GE439 := n3_; clear n0_ n1_ n2_ n3_; clear hb hbox hg; have hcz8_0 : w7.cell? ⟨gb439, 0, none⟩ = some (.int .i64 a0_0) := (blk_cell BK439.out 0).trans rfl; have hcz8_1 : w7.cell? ⟨gb439, 1, none⟩ = some (.int .i64 a0_1) := (blk_cell BK439.out 1).trans rfl; have hcz8_2 : w7.cell? ⟨gb439, 2, none⟩ = some (.slice A0_2 l0_2.length c0_2) := (blk_cell BK439.out 2).trans rfl; have hcz8_3 : w7.cell? ⟨gb439, 3, none⟩ = some (.slice A0_3 l0_3.length c0_3) := (blk_cell BK439.out 3).trans rfl; have hfz8_0 := blk_frozen BK439.out 0; have hfz8_1 := blk_frozen BK439.out 1; have hfz8_2 := blk_frozen BK439.out 2; have hfz8_3 := blk_frozen BK439.out 3) | ((with_reducible refine gate_callee (f := 37) rfl ?_); refine goesL_ (some 5) rfl rfl Try.func37 (by kernel_rfl) rfl #[.agg #[.int .i64 a0_0, .int .i64 a0_1, .slice A0_2 l0_2.length c0_2, .slice A0_3 l0_3.length c0_3]] rfl ob_ ?_; (with_reducible refine (impl_IsFigure.calls k a0_0 a0_1 _ _ l0_2 _ _ l0_3 true _ ?side1 ?side2 ?side3 ?side4 A2.out).mono ?_); (case side1 => exact kc_ (Kd.C_below HR0_2.out HB.out)); (case side2 => exact HC0_2.out); (case side3 => exact kc_ (Kd.C_below HR0_3.out HB.out)); (case side4 => exact HC0_3.out); rintro e w9 ⟨rfl, hb⟩; refine ⟨_, rfl, ?_⟩; have n0_ := Aside0.mk (bb_ BK439.out hb); have n1_ := Aside0.mk (below_step (bl1_ HB.out GE439.out) hb); clear BK439; clear HB; have BK439 := n0_; have HB := n1_; clear n0_ n1_; (try clear hb); (try clear hb2); (try clear hk); (try clear hi)))
  have n0_ := Aside0.mk (blk_drew BK439.out)
  have n1_ := Aside0.mk (below_drew1 HB.out)
  clear BK439
  clear HB
  have BK439 := n0_
  have HB := n1_
  clear n0_ n1_
  refine start_ (n := 7) (S := fun w' => w'.cell? ⟨gb439, 0, none⟩ = some (.int .i64 a0_0) ∧ w'.cell? ⟨gb439, 1, none⟩ = some (.int .i64 a0_1) ∧ w'.cell? ⟨gb439, 2, none⟩ = some (.slice A0_2 l0_2.length c0_2) ∧ w'.cell? ⟨gb439, 3, none⟩ = some (.slice A0_3 l0_3.length c0_3)) (ds := []) #[false, false, false, false, false, false, false] (by kernel_rfl) rfl rfl ⟨(blk_cell BK439.out 0).trans rfl, (blk_cell BK439.out 1).trans rfl, (blk_cell BK439.out 2).trans rfl, (blk_cell BK439.out 3).trans rfl⟩ (fun hHeld => ?_)
  generalize w9.drew = w10 at BK439 HB hHeld ⊢
  refine take_ (i := 0) (N := some 7) (v := ?_) (a' := ?_) #[true, false, false, false, false, false, false] rfl rfl (by kernel_rfl) (fun _ _ _ h => h) (Or.inl ⟨by rfl, ?_⟩) hHeld ?_ ?_
  rotate_left
  ·rintro w' ⟨s0, s1, s2, s3⟩
   go_simp
   with_reducible rfl
  rotate_left
  ·simp only [Act.put, List.setIfInBounds_toArray, List.set_cons_zero, List.set_cons_succ, i64_w, i32_w]
   rfl
  refine take_ (i := 2) (N := some 9) (v := ?_) (a' := ?_) #[true, false, true, false, false, false, false] rfl rfl (by kernel_rfl) (fun _ _ _ h => h) (Or.inl ⟨by rfl, ?_⟩) hHeld ?_ ?_
  rotate_left
  ·rintro w' ⟨s0, s1, s2, s3⟩
   go_simp
   with_reducible rfl
  rotate_left
  ·simp only [Act.put, List.setIfInBounds_toArray, List.set_cons_zero, List.set_cons_succ, i64_w, i32_w]
   rfl
  refine one_ (i := 1) (N := some 8) #[true, true, true, false, false, false, false] rfl rfl (by kernel_rfl) (by decide) (fun K hK => ?_)
  refine goes_ Try.func47 (by kernel_rfl) rfl #[.agg #[.int .i64 a0_0, .int .i64 a0_1, .slice A0_2 l0_2.length c0_2, .slice A0_3 l0_3.length c0_3]] (by rfl) rfl rfl ob_ ?_
  with_reducible refine (impl_Figure_grid.calls a0_0 a0_1 _ _ l0_2 _ _ l0_3 t441 t442 _ ?side1 ?side2 ?side3 ?side4 A4.out).mono ?_
  (case side1 => exact kc_ (Kd.C_below HR0_2.out HB.out))
  (case side2 => exact HC0_2.out)
  (case side3 => exact kc_ (Kd.C_below HR0_3.out HB.out))
  (case side4 => exact HC0_3.out)
  rintro e w11 ⟨rfl, hb⟩
  refine ⟨_, rfl, ?_⟩
  have n0_ := Aside0.mk (bb_ BK439.out hb)
  have n1_ := Aside0.mk (below_step (bl1_ HB.out GE439.out) hb)
  clear BK439
  clear HB
  have BK439 := n0_
  have HB := n1_
  clear n0_ n1_
  (try clear hb)
  (try clear hb2)
  (try clear hk)
  (try clear hi)
  refine hK.out _ _ ⟨(blk_cell BK439.out 0).trans rfl, (blk_cell BK439.out 1).trans rfl, (blk_cell BK439.out 2).trans rfl, (blk_cell BK439.out 3).trans rfl⟩ (fun hHeld => ?_)
  clear hK K
  refine norm_ (a' := ?_) ?_ ?_
  rotate_left
  ·show Act.put _ (some 8) _ = _
   simp only [Act.put, List.setIfInBounds_toArray, List.set_cons_zero, List.set_cons_succ, i64_w, i32_w]
   rfl
  refine one_ (i := 3) (N := some 10) #[true, true, true, true, false, false, false] rfl rfl (by kernel_rfl) (by decide) (fun K hK => ?_)
  refine goes_ Try.func49 (by kernel_rfl) rfl #[.agg #[.int .i64 a0_0, .int .i64 a0_1, .slice A0_2 l0_2.length c0_2, .slice A0_3 l0_3.length c0_3]] (by rfl) rfl rfl ob_ ?_
  with_reducible refine (impl_Figure_set.calls k a0_0 a0_1 _ _ l0_2 _ _ l0_3 t443 _ ?side1 ?side2 ?side3 ?side4 A5.out).mono ?_
  (case side1 => exact kc_ (Kd.C_below HR0_2.out HB.out))
  (case side2 => exact HC0_2.out)
  (case side3 => exact kc_ (Kd.C_below HR0_3.out HB.out))
  (case side4 => exact HC0_3.out)
  rintro e w12 ⟨rfl, hb⟩
  refine ⟨_, rfl, ?_⟩
  have n0_ := Aside0.mk (bb_ BK439.out hb)
  have n1_ := Aside0.mk (below_step (bl1_ HB.out GE439.out) hb)
  clear BK439
  clear HB
  have BK439 := n0_
  have HB := n1_
  clear n0_ n1_
  (try clear hb)
  (try clear hb2)
  (try clear hk)
  (try clear hi)
  refine hK.out _ _ ⟨(blk_cell BK439.out 0).trans rfl, (blk_cell BK439.out 1).trans rfl, (blk_cell BK439.out 2).trans rfl, (blk_cell BK439.out 3).trans rfl⟩ (fun hHeld => ?_)
  clear hK K
  refine norm_ (a' := ?_) ?_ ?_
  rotate_left
  ·show Act.put _ (some 10) _ = _
   simp only [Act.put, List.setIfInBounds_toArray, List.set_cons_zero, List.set_cons_succ, i64_w, i32_w]
   rfl
  refine one_ (i := 4) (N := some 11) #[true, true, true, true, true, false, false] rfl rfl (by kernel_rfl) (by decide) (fun K hK => ?_)
  refine goes_ Try.func48 (by kernel_rfl) rfl #[.agg #[.int .i64 t441, .int .i64 t442], .int .u64 t443, .bool true] (by rfl) rfl rfl ob_ ?_
  with_reducible refine (impl_grid_regions.calls k t441 t442 t443 true t444 _ A6.out).mono ?_
  rintro e w13 ⟨v445, rfl, ho0, hb⟩
  refine ⟨_, rfl, ?_⟩
  have n0_ := Aside0.mk (Kd.S_lower ho0 (below_size (bl1_ HB.out GE439.out)))
  have n1_ := Aside0.mk (bb_ BK439.out hb)
  have n2_ := Aside0.mk (below_step (bl1_ HB.out GE439.out) hb)
  clear BK439
  clear HB
  have HO446 := n0_
  have BK439 := n1_
  have HB := n2_
  clear n0_ n1_ n2_
  (try clear hb)
  (try clear hb2)
  (try clear hk)
  (try clear hi)
  (try clear ho0)
  refine hK.out _ _ ⟨(blk_cell BK439.out 0).trans rfl, (blk_cell BK439.out 1).trans rfl, (blk_cell BK439.out 2).trans rfl, (blk_cell BK439.out 3).trans rfl⟩ (fun hHeld => ?_)
  clear hK K
  refine norm_ (a' := ?_) ?_ ?_
  rotate_left
  ·show Act.put _ (some 11) _ = _
   simp only [Act.put, List.setIfInBounds_toArray, List.set_cons_zero, List.set_cons_succ, i64_w, i32_w]
   rfl
  refine pure_ (i := 5) (N := some 2) (v := ?_) (a' := ?_) #[true, true, true, true, true, true, false] rfl rfl (by kernel_rfl) (fun _ _ _ h => h) (Or.inl ⟨by rfl, ?_⟩) ?_ ?_
  rotate_left
  ·intro w'
   go_simp
   with_reducible rfl
  rotate_left
  ·simp only [Act.put, List.setIfInBounds_toArray, List.set_cons_zero, List.set_cons_succ, i64_w, i32_w]
   rfl
  refine pure_ (i := 6) (N := some 3) (v := ?_) (a' := ?_) #[true, true, true, true, true, true, true] rfl rfl (by kernel_rfl) (fun _ _ _ h => h) (Or.inl ⟨by rfl, ?_⟩) ?_ ?_
  rotate_left
  ·intro w'
   go_simp
   with_reducible rfl
  rotate_left
  ·simp only [Act.put, List.setIfInBounds_toArray, List.set_cons_zero, List.set_cons_succ, i64_w, i32_w]
   rfl
  refine done_ (by kernel_rfl) ?_
  try go_wp2
  go_ret2
  exact ⟨_, er_, by (with_reducible repeat (first | apply Kd.S_alloc | apply Kd.S_drewN | apply Kd.S_drew)); exact HO446.out, bl1_ HB.out GE439.out⟩
 ·replace c3 := Bool.eq_false_iff.mpr c3
  subst c3
  have H1 : (some (([] : List (List Int)), false)) = some (r1, r2) := by rw [if_neg (show ¬ (false = true) by decide)] at H; exact H
  clear H
  have H := H1
  clear H1
  simp only [Option.some.injEq, Prod.mk.injEq] at H
  obtain ⟨rfl, rfl⟩ := H
  go_enter Try.func22, Try.ntmps22
  go_wp2_with (first | ((with_reducible refine gate_dst (N := 1) rfl ?_); refine boxE_ (N := 1) (cs := #[.int .i64 a0_0, .int .i64 a0_1, .slice A0_2 l0_2.length c0_2, .slice A0_3 l0_3.length c0_3]) (t := 28) ?_; intro gb439 hg w14 hbox hb; have n0_ := Aside0.mk (below_step (bl0_ HB.out) hb); have n1_ := Aside0.mk (hbox); have n2_ := Aside0.mk ((bs0_ hg HB.out : w.heap.size ≤ gb439)); have n3_ := Aside0.mk ((bs0_ hg HB.out : w.heap.size ≤ gb439)); clear HB; have HB := n0_; have BK439 := n1_; have GW439 := n2_; have GE439 := n3_; clear n0_ n1_ n2_ n3_; clear hb hbox hg; have hcz15_0 : w14.cell? ⟨gb439, 0, none⟩ = some (.int .i64 a0_0) := (blk_cell BK439.out 0).trans rfl; have hcz15_1 : w14.cell? ⟨gb439, 1, none⟩ = some (.int .i64 a0_1) := (blk_cell BK439.out 1).trans rfl; have hcz15_2 : w14.cell? ⟨gb439, 2, none⟩ = some (.slice A0_2 l0_2.length c0_2) := (blk_cell BK439.out 2).trans rfl; have hcz15_3 : w14.cell? ⟨gb439, 3, none⟩ = some (.slice A0_3 l0_3.length c0_3) := (blk_cell BK439.out 3).trans rfl; have hfz15_0 := blk_frozen BK439.out 0; have hfz15_1 := blk_frozen BK439.out 1; have hfz15_2 := blk_frozen BK439.out 2; have hfz15_3 := blk_frozen BK439.out 3) | ((with_reducible refine gate_callee (f := 37) rfl ?_); refine goesL_ (some 5) rfl rfl Try.func37 (by kernel_rfl) rfl #[.agg #[.int .i64 a0_0, .int .i64 a0_1, .slice A0_2 l0_2.length c0_2, .slice A0_3 l0_3.length c0_3]] rfl ob_ ?_; (with_reducible refine (impl_IsFigure.calls k a0_0 a0_1 _ _ l0_2 _ _ l0_3 false _ ?side1 ?side2 ?side3 ?side4 A2.out).mono ?_); (case side1 => exact kc_ (Kd.C_below HR0_2.out HB.out)); (case side2 => exact HC0_2.out); (case side3 => exact kc_ (Kd.C_below HR0_3.out HB.out)); (case side4 => exact HC0_3.out); rintro e w16 ⟨rfl, hb⟩; refine ⟨_, rfl, ?_⟩; have n0_ := Aside0.mk (bb_ BK439.out hb); have n1_ := Aside0.mk (below_step (bl1_ HB.out GE439.out) hb); clear BK439; clear HB; have BK439 := n0_; have HB := n1_; clear n0_ n1_; (try clear hb); (try clear hb2); (try clear hk); (try clear hi)))
  go_ret2
  exact ⟨_, er_, by first | exact Kd.S_nil _ _ _ _ _ | exact Kd.N_nil _ _ _ _ _ | exact Kd.V_nil _ _ _ _ _ | exact Kd.Q_nil _ _ _ _ _ | exact Kd.R_nil _ _ _ _ _, bl1_ HB.out GE439.out⟩


def spec_fiEdge.f (a0_0 : Int) (a0_1 : Int) (l0_2 : List Int) (l0_3 : List Int) (a1 : Bool) (a2 : Int) (a3 : Int) : Option (Int × Bool) := if a1 = true then ((spec_l1In.f a2 0 a0_0).bind fun t116 => (if t116 = true then ((spec_l1In.f a3 0 (wrap64 (a0_1 - 1))).bind fun t117 => (some (wrap64 ((wrap64 (a3 * (wrap64 (a0_0 + 1)))) + a2), t117))) else (some (wrap64 ((wrap64 (a3 * (wrap64 (a0_0 + 1)))) + a2), false)))) else ((spec_l1In.f a2 0 (wrap64 (a0_0 - 1))).bind fun t118 => (if t118 = true then ((spec_l1In.f a3 0 a0_1).bind fun t119 => (some (wrap64 ((wrap64 (a3 * a0_0)) + a2), t119))) else (some (wrap64 ((wrap64 (a3 * a0_0)) + a2), false))))
set_option maxHeartbeats 8000000 in
set_option maxRecDepth 100000 in
theorem spec_fiEdge.calls (a0_0 : Int) (a0_1 : Int) (A0_2 : Option Addr) (c0_2 : Nat) (l0_2 : List Int) (A0_3 : Option Addr) (c0_3 : Nat) (l0_3 : List Int) (a1 : Bool) (a2 : Int) (a3 : Int) (r1 : Int) (r2 : Bool) (w : World) (hr0_2 : Kd.C (Kd.int .i64) w A0_2 l0_2.length l0_2) (hc0_2 : l0_2.length ≤ c0_2) (hr0_3 : Kd.C (Kd.int .i64) w A0_3 l0_3.length l0_3) (hc0_3 : l0_3.length ≤ c0_3) (h : spec_fiEdge.f a0_0 a0_1 l0_2 l0_3 a1 a2 a3 = some (r1, r2)) :
  Calls Try.prog 125 #[.agg #[.int .i64 a0_0, .int .i64 a0_1, .slice A0_2 l0_2.length c0_2, .slice A0_3 l0_3.length c0_3], .bool a1, .int .i64 a2, .int .i64 a3] w fun e w' => e = .returned (.tuple #[.int .i64 r1, .bool r2]) ∧ Below w.heap.size w w' := by
 have hu28 := Try.underlying28
 have HR0_2 := Aside0.mk hr0_2
 have HC0_2 := Aside0.mk hc0_2
 clear hr0_2 hc0_2
 have HR0_3 := Aside0.mk hr0_3
 have HC0_3 := Aside0.mk hc0_3
 clear hr0_3 hc0_3
 have HB := Aside0.mk (Below.refl w.heap.size w)
 have H : (if a1 = true then ((spec_l1In.f a2 0 a0_0).bind fun t116 => (if t116 = true then ((spec_l1In.f a3 0 (wrap64 (a0_1 - 1))).bind fun t117 => (some (wrap64 ((wrap64 (a3 * (wrap64 (a0_0 + 1)))) + a2), t117))) else (some (wrap64 ((wrap64 (a3 * (wrap64 (a0_0 + 1)))) + a2), false)))) else ((spec_l1In.f a2 0 (wrap64 (a0_0 - 1))).bind fun t118 => (if t118 = true then ((spec_l1In.f a3 0 a0_1).bind fun t119 => (some (wrap64 ((wrap64 (a3 * a0_0)) + a2), t119))) else (some (wrap64 ((wrap64 (a3 * a0_0)) + a2), false))))) = some (r1, r2) := h
 clear h
 by_cases c5 : a1 = true
 ·subst c5
  have H1 : ((spec_l1In.f a2 0 a0_0).bind fun t116 => (if t116 = true then ((spec_l1In.f a3 0 (wrap64 (a0_1 - 1))).bind fun t117 => (some (wrap64 ((wrap64 (a3 * (wrap64 (a0_0 + 1)))) + a2), t117))) else (some (wrap64 ((wrap64 (a3 * (wrap64 (a0_0 + 1)))) + a2), false)))) = some (r1, r2) := by rw [if_pos rfl] at H; exact H
  clear H
  have H := H1
  clear H1
  replace H := Option.bind_eq_some_iff.mp H
  obtain ⟨t116, A60, H⟩ := H
  replace H : (if t116 = true then ((spec_l1In.f a3 0 (wrap64 (a0_1 - 1))).bind fun t117 => (some (wrap64 ((wrap64 (a3 * (wrap64 (a0_0 + 1)))) + a2), t117))) else (some (wrap64 ((wrap64 (a3 * (wrap64 (a0_0 + 1)))) + a2), false))) = some (r1, r2) := H
  have A6 := Aside0.mk A60
  clear A60
  by_cases c7 : t116 = true
  ·subst c7
   have H1 : ((spec_l1In.f a3 0 (wrap64 (a0_1 - 1))).bind fun t117 => (some (wrap64 ((wrap64 (a3 * (wrap64 (a0_0 + 1)))) + a2), t117))) = some (r1, r2) := by rw [if_pos rfl] at H; exact H
   clear H
   have H := H1
   clear H1
   replace H := Option.bind_eq_some_iff.mp H
   obtain ⟨t117, A80, H⟩ := H
   replace H : (some (wrap64 ((wrap64 (a3 * (wrap64 (a0_0 + 1)))) + a2), t117)) = some (r1, r2) := H
   have A8 := Aside0.mk A80
   clear A80
   simp only [Option.some.injEq, Prod.mk.injEq] at H
   obtain ⟨rfl, rfl⟩ := H
   go_enter Try.func125, Try.ntmps125
   go_wp2_with (first | ((with_reducible refine gate_dst (N := 4) rfl ?_); refine boxE_ (N := 4) (cs := #[.int .i64 a0_0, .int .i64 a0_1, .slice A0_2 l0_2.length c0_2, .slice A0_3 l0_3.length c0_3]) (t := 28) ?_; intro gb115 hg w9 hbox hb; have n0_ := Aside0.mk (below_step (bl0_ HB.out) hb); have n1_ := Aside0.mk (hbox); have n2_ := Aside0.mk ((bs0_ hg HB.out : w.heap.size ≤ gb115)); have n3_ := Aside0.mk ((bs0_ hg HB.out : w.heap.size ≤ gb115)); clear HB; have HB := n0_; have BK115 := n1_; have GW115 := n2_; have GE115 := n3_; clear n0_ n1_ n2_ n3_; clear hb hbox hg; have hcz10_0 : w9.cell? ⟨gb115, 0, none⟩ = some (.int .i64 a0_0) := (blk_cell BK115.out 0).trans rfl; have hcz10_1 : w9.cell? ⟨gb115, 1, none⟩ = some (.int .i64 a0_1) := (blk_cell BK115.out 1).trans rfl; have hcz10_2 : w9.cell? ⟨gb115, 2, none⟩ = some (.slice A0_2 l0_2.length c0_2) := (blk_cell BK115.out 2).trans rfl; have hcz10_3 : w9.cell? ⟨gb115, 3, none⟩ = some (.slice A0_3 l0_3.length c0_3) := (blk_cell BK115.out 3).trans rfl; have hfz10_0 := blk_frozen BK115.out 0; have hfz10_1 := blk_frozen BK115.out 1; have hfz10_2 := blk_frozen BK115.out 2; have hfz10_3 := blk_frozen BK115.out 3) | (go_at_call 96; (with_reducible refine (spec_l1In.calls a2 0 a0_0 true _ A6.out).mono ?_); rintro e w' ⟨rfl, ⟨nd, rfl⟩⟩; (try first | exact ⟨rfl, _, World.drewN_drewN _ _ _⟩ | exact ⟨rfl, _, Eq.trans (World.drewN_drewN _ _ _) (congrArg (World.drewN _) (Nat.add_assoc _ _ _))⟩)) | (go_at_call 96; (with_reducible refine (spec_l1In.calls a3 0 (wrap64 (a0_1 - 1)) t117 _ A8.out).mono ?_); rintro e w' ⟨rfl, ⟨nd, rfl⟩⟩; (try first | exact ⟨rfl, _, World.drewN_drewN _ _ _⟩ | exact ⟨rfl, _, Eq.trans (World.drewN_drewN _ _ _) (congrArg (World.drewN _) (Nat.add_assoc _ _ _))⟩)))
   repeat (go_quiet (first | ((with_reducible refine gate_dst (N := 4) rfl ?_); refine boxE_ (N := 4) (cs := #[.int .i64 a0_0, .int .i64 a0_1, .slice A0_2 l0_2.length c0_2, .slice A0_3 l0_3.length c0_3]) (t := 28) ?_; intro gb115 hg w9 hbox hb; have n0_ := Aside0.mk (below_step (bl0_ HB.out) hb); have n1_ := Aside0.mk (hbox); have n2_ := Aside0.mk ((bs0_ hg HB.out : w.heap.size ≤ gb115)); have n3_ := Aside0.mk ((bs0_ hg HB.out : w.heap.size ≤ gb115)); clear HB; have HB := n0_; have BK115 := n1_; have GW115 := n2_; have GE115 := n3_; clear n0_ n1_ n2_ n3_; clear hb hbox hg; have hcz10_0 : w9.cell? ⟨gb115, 0, none⟩ = some (.int .i64 a0_0) := (blk_cell BK115.out 0).trans rfl; have hcz10_1 : w9.cell? ⟨gb115, 1, none⟩ = some (.int .i64 a0_1) := (blk_cell BK115.out 1).trans rfl; have hcz10_2 : w9.cell? ⟨gb115, 2, none⟩ = some (.slice A0_2 l0_2.length c0_2) := (blk_cell BK115.out 2).trans rfl; have hcz10_3 : w9.cell? ⟨gb115, 3, none⟩ = some (.slice A0_3 l0_3.length c0_3) := (blk_cell BK115.out 3).trans rfl; have hfz10_0 := blk_frozen BK115.out 0; have hfz10_1 := blk_frozen BK115.out 1; have hfz10_2 := blk_frozen BK115.out 2; have hfz10_3 := blk_frozen BK115.out 3) | (go_at_call 96; (with_reducible refine (spec_l1In.calls a2 0 a0_0 true _ A6.out).mono ?_); rintro e w' ⟨rfl, ⟨nd, rfl⟩⟩; (try first | exact ⟨rfl, _, World.drewN_drewN _ _ _⟩ | exact ⟨rfl, _, Eq.trans (World.drewN_drewN _ _ _) (congrArg (World.drewN _) (Nat.add_assoc _ _ _))⟩)) | (go_at_call 96; (with_reducible refine (spec_l1In.calls a3 0 (wrap64 (a0_1 - 1)) t117 _ A8.out).mono ?_); rintro e w' ⟨rfl, ⟨nd, rfl⟩⟩; (try first | exact ⟨rfl, _, World.drewN_drewN _ _ _⟩ | exact ⟨rfl, _, Eq.trans (World.drewN_drewN _ _ _) (congrArg (World.drewN _) (Nat.add_assoc _ _ _))⟩))); try go_wp2_with (first | ((with_reducible refine gate_dst (N := 4) rfl ?_); refine boxE_ (N := 4) (cs := #[.int .i64 a0_0, .int .i64 a0_1, .slice A0_2 l0_2.length c0_2, .slice A0_3 l0_3.length c0_3]) (t := 28) ?_; intro gb115 hg w9 hbox hb; have n0_ := Aside0.mk (below_step (bl0_ HB.out) hb); have n1_ := Aside0.mk (hbox); have n2_ := Aside0.mk ((bs0_ hg HB.out : w.heap.size ≤ gb115)); have n3_ := Aside0.mk ((bs0_ hg HB.out : w.heap.size ≤ gb115)); clear HB; have HB := n0_; have BK115 := n1_; have GW115 := n2_; have GE115 := n3_; clear n0_ n1_ n2_ n3_; clear hb hbox hg; have hcz10_0 : w9.cell? ⟨gb115, 0, none⟩ = some (.int .i64 a0_0) := (blk_cell BK115.out 0).trans rfl; have hcz10_1 : w9.cell? ⟨gb115, 1, none⟩ = some (.int .i64 a0_1) := (blk_cell BK115.out 1).trans rfl; have hcz10_2 : w9.cell? ⟨gb115, 2, none⟩ = some (.slice A0_2 l0_2.length c0_2) := (blk_cell BK115.out 2).trans rfl; have hcz10_3 : w9.cell? ⟨gb115, 3, none⟩ = some (.slice A0_3 l0_3.length c0_3) := (blk_cell BK115.out 3).trans rfl; have hfz10_0 := blk_frozen BK115.out 0; have hfz10_1 := blk_frozen BK115.out 1; have hfz10_2 := blk_frozen BK115.out 2; have hfz10_3 := blk_frozen BK115.out 3) | (go_at_call 96; (with_reducible refine (spec_l1In.calls a2 0 a0_0 true _ A6.out).mono ?_); rintro e w' ⟨rfl, ⟨nd, rfl⟩⟩; (try first | exact ⟨rfl, _, World.drewN_drewN _ _ _⟩ | exact ⟨rfl, _, Eq.trans (World.drewN_drewN _ _ _) (congrArg (World.drewN _) (Nat.add_assoc _ _ _))⟩)) | (go_at_call 96; (with_reducible refine (spec_l1In.calls a3 0 (wrap64 (a0_1 - 1)) t117 _ A8.out).mono ?_); rintro e w' ⟨rfl, ⟨nd, rfl⟩⟩; (try first | exact ⟨rfl, _, World.drewN_drewN _ _ _⟩ | exact ⟨rfl, _, Eq.trans (World.drewN_drewN _ _ _) (congrArg (World.drewN _) (Nat.add_assoc _ _ _))⟩))))
   go_ret2
   exact ⟨er_, bl1_ HB.out GE115.out⟩
  ·replace c7 := Bool.eq_false_iff.mpr c7
   subst c7
   have H1 : (some (wrap64 ((wrap64 (a3 * (wrap64 (a0_0 + 1)))) + a2), false)) = some (r1, r2) := by rw [if_neg (show ¬ (false = true) by decide)] at H; exact H
   clear H
   have H := H1
   clear H1
   simp only [Option.some.injEq, Prod.mk.injEq] at H
   obtain ⟨rfl, rfl⟩ := H
   go_enter Try.func125, Try.ntmps125
   go_wp2_with (first | ((with_reducible refine gate_dst (N := 4) rfl ?_); refine boxE_ (N := 4) (cs := #[.int .i64 a0_0, .int .i64 a0_1, .slice A0_2 l0_2.length c0_2, .slice A0_3 l0_3.length c0_3]) (t := 28) ?_; intro gb115 hg w11 hbox hb; have n0_ := Aside0.mk (below_step (bl0_ HB.out) hb); have n1_ := Aside0.mk (hbox); have n2_ := Aside0.mk ((bs0_ hg HB.out : w.heap.size ≤ gb115)); have n3_ := Aside0.mk ((bs0_ hg HB.out : w.heap.size ≤ gb115)); clear HB; have HB := n0_; have BK115 := n1_; have GW115 := n2_; have GE115 := n3_; clear n0_ n1_ n2_ n3_; clear hb hbox hg; have hcz12_0 : w11.cell? ⟨gb115, 0, none⟩ = some (.int .i64 a0_0) := (blk_cell BK115.out 0).trans rfl; have hcz12_1 : w11.cell? ⟨gb115, 1, none⟩ = some (.int .i64 a0_1) := (blk_cell BK115.out 1).trans rfl; have hcz12_2 : w11.cell? ⟨gb115, 2, none⟩ = some (.slice A0_2 l0_2.length c0_2) := (blk_cell BK115.out 2).trans rfl; have hcz12_3 : w11.cell? ⟨gb115, 3, none⟩ = some (.slice A0_3 l0_3.length c0_3) := (blk_cell BK115.out 3).trans rfl; have hfz12_0 := blk_frozen BK115.out 0; have hfz12_1 := blk_frozen BK115.out 1; have hfz12_2 := blk_frozen BK115.out 2; have hfz12_3 := blk_frozen BK115.out 3) | (go_at_call 96; (with_reducible refine (spec_l1In.calls a2 0 a0_0 false _ A6.out).mono ?_); rintro e w' ⟨rfl, ⟨nd, rfl⟩⟩; (try first | exact ⟨rfl, _, World.drewN_drewN _ _ _⟩ | exact ⟨rfl, _, Eq.trans (World.drewN_drewN _ _ _) (congrArg (World.drewN _) (Nat.add_assoc _ _ _))⟩)))
   repeat (go_quiet (first | ((with_reducible refine gate_dst (N := 4) rfl ?_); refine boxE_ (N := 4) (cs := #[.int .i64 a0_0, .int .i64 a0_1, .slice A0_2 l0_2.length c0_2, .slice A0_3 l0_3.length c0_3]) (t := 28) ?_; intro gb115 hg w11 hbox hb; have n0_ := Aside0.mk (below_step (bl0_ HB.out) hb); have n1_ := Aside0.mk (hbox); have n2_ := Aside0.mk ((bs0_ hg HB.out : w.heap.size ≤ gb115)); have n3_ := Aside0.mk ((bs0_ hg HB.out : w.heap.size ≤ gb115)); clear HB; have HB := n0_; have BK115 := n1_; have GW115 := n2_; have GE115 := n3_; clear n0_ n1_ n2_ n3_; clear hb hbox hg; have hcz12_0 : w11.cell? ⟨gb115, 0, none⟩ = some (.int .i64 a0_0) := (blk_cell BK115.out 0).trans rfl; have hcz12_1 : w11.cell? ⟨gb115, 1, none⟩ = some (.int .i64 a0_1) := (blk_cell BK115.out 1).trans rfl; have hcz12_2 : w11.cell? ⟨gb115, 2, none⟩ = some (.slice A0_2 l0_2.length c0_2) := (blk_cell BK115.out 2).trans rfl; have hcz12_3 : w11.cell? ⟨gb115, 3, none⟩ = some (.slice A0_3 l0_3.length c0_3) := (blk_cell BK115.out 3).trans rfl; have hfz12_0 := blk_frozen BK115.out 0; have hfz12_1 := blk_frozen BK115.out 1; have hfz12_2 := blk_frozen BK115.out 2; have hfz12_3 := blk_frozen BK115.out 3) | (go_at_call 96; (with_reducible refine (spec_l1In.calls a2 0 a0_0 false _ A6.out).mono ?_); rintro e w' ⟨rfl, ⟨nd, rfl⟩⟩; (try first | exact ⟨rfl, _, World.drewN_drewN _ _ _⟩ | exact ⟨rfl, _, Eq.trans (World.drewN_drewN _ _ _) (congrArg (World.drewN _) (Nat.add_assoc _ _ _))⟩))); try go_wp2_with (first | ((with_reducible refine gate_dst (N := 4) rfl ?_); refine boxE_ (N := 4) (cs := #[.int .i64 a0_0, .int .i64 a0_1, .slice A0_2 l0_2.length c0_2, .slice A0_3 l0_3.length c0_3]) (t := 28) ?_; intro gb115 hg w11 hbox hb; have n0_ := Aside0.mk (below_step (bl0_ HB.out) hb); have n1_ := Aside0.mk (hbox); have n2_ := Aside0.mk ((bs0_ hg HB.out : w.heap.size ≤ gb115)); have n3_ := Aside0.mk ((bs0_ hg HB.out : w.heap.size ≤ gb115)); clear HB; have HB := n0_; have BK115 := n1_; have GW115 := n2_; have GE115 := n3_; clear n0_ n1_ n2_ n3_; clear hb hbox hg; have hcz12_0 : w11.cell? ⟨gb115, 0, none⟩ = some (.int .i64 a0_0) := (blk_cell BK115.out 0).trans rfl; have hcz12_1 : w11.cell? ⟨gb115, 1, none⟩ = some (.int .i64 a0_1) := (blk_cell BK115.out 1).trans rfl; have hcz12_2 : w11.cell? ⟨gb115, 2, none⟩ = some (.slice A0_2 l0_2.length c0_2) := (blk_cell BK115.out 2).trans rfl; have hcz12_3 : w11.cell? ⟨gb115, 3, none⟩ = some (.slice A0_3 l0_3.length c0_3) := (blk_cell BK115.out 3).trans rfl; have hfz12_0 := blk_frozen BK115.out 0; have hfz12_1 := blk_frozen BK115.out 1; have hfz12_2 := blk_frozen BK115.out 2; have hfz12_3 := blk_frozen BK115.out 3) | (go_at_call 96; (with_reducible refine (spec_l1In.calls a2 0 a0_0 false _ A6.out).mono ?_); rintro e w' ⟨rfl, ⟨nd, rfl⟩⟩; (try first | exact ⟨rfl, _, World.drewN_drewN _ _ _⟩ | exact ⟨rfl, _, Eq.trans (World.drewN_drewN _ _ _) (congrArg (World.drewN _) (Nat.add_assoc _ _ _))⟩))))
   go_ret2
   exact ⟨er_, bl1_ HB.out GE115.out⟩
 ·replace c5 := Bool.eq_false_iff.mpr c5
  subst c5
  have H1 : ((spec_l1In.f a2 0 (wrap64 (a0_0 - 1))).bind fun t118 => (if t118 = true then ((spec_l1In.f a3 0 a0_1).bind fun t119 => (some (wrap64 ((wrap64 (a3 * a0_0)) + a2), t119))) else (some (wrap64 ((wrap64 (a3 * a0_0)) + a2), false)))) = some (r1, r2) := by rw [if_neg (show ¬ (false = true) by decide)] at H; exact H
  clear H
  have H := H1
  clear H1
  replace H := Option.bind_eq_some_iff.mp H
  obtain ⟨t118, A130, H⟩ := H
  replace H : (if t118 = true then ((spec_l1In.f a3 0 a0_1).bind fun t119 => (some (wrap64 ((wrap64 (a3 * a0_0)) + a2), t119))) else (some (wrap64 ((wrap64 (a3 * a0_0)) + a2), false))) = some (r1, r2) := H
  have A13 := Aside0.mk A130
  clear A130
  by_cases c14 : t118 = true
  ·subst c14
   have H1 : ((spec_l1In.f a3 0 a0_1).bind fun t119 => (some (wrap64 ((wrap64 (a3 * a0_0)) + a2), t119))) = some (r1, r2) := by rw [if_pos rfl] at H; exact H
   clear H
   have H := H1
   clear H1
   replace H := Option.bind_eq_some_iff.mp H
   obtain ⟨t119, A150, H⟩ := H
   replace H : (some (wrap64 ((wrap64 (a3 * a0_0)) + a2), t119)) = some (r1, r2) := H
   have A15 := Aside0.mk A150
   clear A150
   simp only [Option.some.injEq, Prod.mk.injEq] at H
   obtain ⟨rfl, rfl⟩ := H
   go_enter Try.func125, Try.ntmps125
   go_wp2_with (first | ((with_reducible refine gate_dst (N := 4) rfl ?_); refine boxE_ (N := 4) (cs := #[.int .i64 a0_0, .int .i64 a0_1, .slice A0_2 l0_2.length c0_2, .slice A0_3 l0_3.length c0_3]) (t := 28) ?_; intro gb115 hg w16 hbox hb; have n0_ := Aside0.mk (below_step (bl0_ HB.out) hb); have n1_ := Aside0.mk (hbox); have n2_ := Aside0.mk ((bs0_ hg HB.out : w.heap.size ≤ gb115)); have n3_ := Aside0.mk ((bs0_ hg HB.out : w.heap.size ≤ gb115)); clear HB; have HB := n0_; have BK115 := n1_; have GW115 := n2_; have GE115 := n3_; clear n0_ n1_ n2_ n3_; clear hb hbox hg; have hcz17_0 : w16.cell? ⟨gb115, 0, none⟩ = some (.int .i64 a0_0) := (blk_cell BK115.out 0).trans rfl; have hcz17_1 : w16.cell? ⟨gb115, 1, none⟩ = some (.int .i64 a0_1) := (blk_cell BK115.out 1).trans rfl; have hcz17_2 : w16.cell? ⟨gb115, 2, none⟩ = some (.slice A0_2 l0_2.length c0_2) := (blk_cell BK115.out 2).trans rfl; have hcz17_3 : w16.cell? ⟨gb115, 3, none⟩ = some (.slice A0_3 l0_3.length c0_3) := (blk_cell BK115.out 3).trans rfl; have hfz17_0 := blk_frozen BK115.out 0; have hfz17_1 := blk_frozen BK115.out 1; have hfz17_2 := blk_frozen BK115.out 2; have hfz17_3 := blk_frozen BK115.out 3) | (go_at_call 96; (with_reducible refine (spec_l1In.calls a2 0 (wrap64 (a0_0 - 1)) true _ A13.out).mono ?_); rintro e w' ⟨rfl, ⟨nd, rfl⟩⟩; (try first | exact ⟨rfl, _, World.drewN_drewN _ _ _⟩ | exact ⟨rfl, _, Eq.trans (World.drewN_drewN _ _ _) (congrArg (World.drewN _) (Nat.add_assoc _ _ _))⟩)) | (go_at_call 96; (with_reducible refine (spec_l1In.calls a3 0 a0_1 t119 _ A15.out).mono ?_); rintro e w' ⟨rfl, ⟨nd, rfl⟩⟩; (try first | exact ⟨rfl, _, World.drewN_drewN _ _ _⟩ | exact ⟨rfl, _, Eq.trans (World.drewN_drewN _ _ _) (congrArg (World.drewN _) (Nat.add_assoc _ _ _))⟩)))
   repeat (go_quiet (first | ((with_reducible refine gate_dst (N := 4) rfl ?_); refine boxE_ (N := 4) (cs := #[.int .i64 a0_0, .int .i64 a0_1, .slice A0_2 l0_2.length c0_2, .slice A0_3 l0_3.length c0_3]) (t := 28) ?_; intro gb115 hg w16 hbox hb; have n0_ := Aside0.mk (below_step (bl0_ HB.out) hb); have n1_ := Aside0.mk (hbox); have n2_ := Aside0.mk ((bs0_ hg HB.out : w.heap.size ≤ gb115)); have n3_ := Aside0.mk ((bs0_ hg HB.out : w.heap.size ≤ gb115)); clear HB; have HB := n0_; have BK115 := n1_; have GW115 := n2_; have GE115 := n3_; clear n0_ n1_ n2_ n3_; clear hb hbox hg; have hcz17_0 : w16.cell? ⟨gb115, 0, none⟩ = some (.int .i64 a0_0) := (blk_cell BK115.out 0).trans rfl; have hcz17_1 : w16.cell? ⟨gb115, 1, none⟩ = some (.int .i64 a0_1) := (blk_cell BK115.out 1).trans rfl; have hcz17_2 : w16.cell? ⟨gb115, 2, none⟩ = some (.slice A0_2 l0_2.length c0_2) := (blk_cell BK115.out 2).trans rfl; have hcz17_3 : w16.cell? ⟨gb115, 3, none⟩ = some (.slice A0_3 l0_3.length c0_3) := (blk_cell BK115.out 3).trans rfl; have hfz17_0 := blk_frozen BK115.out 0; have hfz17_1 := blk_frozen BK115.out 1; have hfz17_2 := blk_frozen BK115.out 2; have hfz17_3 := blk_frozen BK115.out 3) | (go_at_call 96; (with_reducible refine (spec_l1In.calls a2 0 (wrap64 (a0_0 - 1)) true _ A13.out).mono ?_); rintro e w' ⟨rfl, ⟨nd, rfl⟩⟩; (try first | exact ⟨rfl, _, World.drewN_drewN _ _ _⟩ | exact ⟨rfl, _, Eq.trans (World.drewN_drewN _ _ _) (congrArg (World.drewN _) (Nat.add_assoc _ _ _))⟩)) | (go_at_call 96; (with_reducible refine (spec_l1In.calls a3 0 a0_1 t119 _ A15.out).mono ?_); rintro e w' ⟨rfl, ⟨nd, rfl⟩⟩; (try first | exact ⟨rfl, _, World.drewN_drewN _ _ _⟩ | exact ⟨rfl, _, Eq.trans (World.drewN_drewN _ _ _) (congrArg (World.drewN _) (Nat.add_assoc _ _ _))⟩))); try go_wp2_with (first | ((with_reducible refine gate_dst (N := 4) rfl ?_); refine boxE_ (N := 4) (cs := #[.int .i64 a0_0, .int .i64 a0_1, .slice A0_2 l0_2.length c0_2, .slice A0_3 l0_3.length c0_3]) (t := 28) ?_; intro gb115 hg w16 hbox hb; have n0_ := Aside0.mk (below_step (bl0_ HB.out) hb); have n1_ := Aside0.mk (hbox); have n2_ := Aside0.mk ((bs0_ hg HB.out : w.heap.size ≤ gb115)); have n3_ := Aside0.mk ((bs0_ hg HB.out : w.heap.size ≤ gb115)); clear HB; have HB := n0_; have BK115 := n1_; have GW115 := n2_; have GE115 := n3_; clear n0_ n1_ n2_ n3_; clear hb hbox hg; have hcz17_0 : w16.cell? ⟨gb115, 0, none⟩ = some (.int .i64 a0_0) := (blk_cell BK115.out 0).trans rfl; have hcz17_1 : w16.cell? ⟨gb115, 1, none⟩ = some (.int .i64 a0_1) := (blk_cell BK115.out 1).trans rfl; have hcz17_2 : w16.cell? ⟨gb115, 2, none⟩ = some (.slice A0_2 l0_2.length c0_2) := (blk_cell BK115.out 2).trans rfl; have hcz17_3 : w16.cell? ⟨gb115, 3, none⟩ = some (.slice A0_3 l0_3.length c0_3) := (blk_cell BK115.out 3).trans rfl; have hfz17_0 := blk_frozen BK115.out 0; have hfz17_1 := blk_frozen BK115.out 1; have hfz17_2 := blk_frozen BK115.out 2; have hfz17_3 := blk_frozen BK115.out 3) | (go_at_call 96; (with_reducible refine (spec_l1In.calls a2 0 (wrap64 (a0_0 - 1)) true _ A13.out).mono ?_); rintro e w' ⟨rfl, ⟨nd, rfl⟩⟩; (try first | exact ⟨rfl, _, World.drewN_drewN _ _ _⟩ | exact ⟨rfl, _, Eq.trans (World.drewN_drewN _ _ _) (congrArg (World.drewN _) (Nat.add_assoc _ _ _))⟩)) | (go_at_call 96; (with_reducible refine (spec_l1In.calls a3 0 a0_1 t119 _ A15.out).mono ?_); rintro e w' ⟨rfl, ⟨nd, rfl⟩⟩; (try first | exact ⟨rfl, _, World.drewN_drewN _ _ _⟩ | exact ⟨rfl, _, Eq.trans (World.drewN_drewN _ _ _) (congrArg (World.drewN _) (Nat.add_assoc _ _ _))⟩))))
   go_ret2
   exact ⟨er_, bl1_ HB.out GE115.out⟩
  ·replace c14 := Bool.eq_false_iff.mpr c14
   subst c14
   have H1 : (some (wrap64 ((wrap64 (a3 * a0_0)) + a2), false)) = some (r1, r2) := by rw [if_neg (show ¬ (false = true) by decide)] at H; exact H
   clear H
   have H := H1
   clear H1
   simp only [Option.some.injEq, Prod.mk.injEq] at H
   obtain ⟨rfl, rfl⟩ := H
   go_enter Try.func125, Try.ntmps125
   go_wp2_with (first | ((with_reducible refine gate_dst (N := 4) rfl ?_); refine boxE_ (N := 4) (cs := #[.int .i64 a0_0, .int .i64 a0_1, .slice A0_2 l0_2.length c0_2, .slice A0_3 l0_3.length c0_3]) (t := 28) ?_; intro gb115 hg w18 hbox hb; have n0_ := Aside0.mk (below_step (bl0_ HB.out) hb); have n1_ := Aside0.mk (hbox); have n2_ := Aside0.mk ((bs0_ hg HB.out : w.heap.size ≤ gb115)); have n3_ := Aside0.mk ((bs0_ hg HB.out : w.heap.size ≤ gb115)); clear HB; have HB := n0_; have BK115 := n1_; have GW115 := n2_; have GE115 := n3_; clear n0_ n1_ n2_ n3_; clear hb hbox hg; have hcz19_0 : w18.cell? ⟨gb115, 0, none⟩ = some (.int .i64 a0_0) := (blk_cell BK115.out 0).trans rfl; have hcz19_1 : w18.cell? ⟨gb115, 1, none⟩ = some (.int .i64 a0_1) := (blk_cell BK115.out 1).trans rfl; have hcz19_2 : w18.cell? ⟨gb115, 2, none⟩ = some (.slice A0_2 l0_2.length c0_2) := (blk_cell BK115.out 2).trans rfl; have hcz19_3 : w18.cell? ⟨gb115, 3, none⟩ = some (.slice A0_3 l0_3.length c0_3) := (blk_cell BK115.out 3).trans rfl; have hfz19_0 := blk_frozen BK115.out 0; have hfz19_1 := blk_frozen BK115.out 1; have hfz19_2 := blk_frozen BK115.out 2; have hfz19_3 := blk_frozen BK115.out 3) | (go_at_call 96; (with_reducible refine (spec_l1In.calls a2 0 (wrap64 (a0_0 - 1)) false _ A13.out).mono ?_); rintro e w' ⟨rfl, ⟨nd, rfl⟩⟩; (try first | exact ⟨rfl, _, World.drewN_drewN _ _ _⟩ | exact ⟨rfl, _, Eq.trans (World.drewN_drewN _ _ _) (congrArg (World.drewN _) (Nat.add_assoc _ _ _))⟩)))
   repeat (go_quiet (first | ((with_reducible refine gate_dst (N := 4) rfl ?_); refine boxE_ (N := 4) (cs := #[.int .i64 a0_0, .int .i64 a0_1, .slice A0_2 l0_2.length c0_2, .slice A0_3 l0_3.length c0_3]) (t := 28) ?_; intro gb115 hg w18 hbox hb; have n0_ := Aside0.mk (below_step (bl0_ HB.out) hb); have n1_ := Aside0.mk (hbox); have n2_ := Aside0.mk ((bs0_ hg HB.out : w.heap.size ≤ gb115)); have n3_ := Aside0.mk ((bs0_ hg HB.out : w.heap.size ≤ gb115)); clear HB; have HB := n0_; have BK115 := n1_; have GW115 := n2_; have GE115 := n3_; clear n0_ n1_ n2_ n3_; clear hb hbox hg; have hcz19_0 : w18.cell? ⟨gb115, 0, none⟩ = some (.int .i64 a0_0) := (blk_cell BK115.out 0).trans rfl; have hcz19_1 : w18.cell? ⟨gb115, 1, none⟩ = some (.int .i64 a0_1) := (blk_cell BK115.out 1).trans rfl; have hcz19_2 : w18.cell? ⟨gb115, 2, none⟩ = some (.slice A0_2 l0_2.length c0_2) := (blk_cell BK115.out 2).trans rfl; have hcz19_3 : w18.cell? ⟨gb115, 3, none⟩ = some (.slice A0_3 l0_3.length c0_3) := (blk_cell BK115.out 3).trans rfl; have hfz19_0 := blk_frozen BK115.out 0; have hfz19_1 := blk_frozen BK115.out 1; have hfz19_2 := blk_frozen BK115.out 2; have hfz19_3 := blk_frozen BK115.out 3) | (go_at_call 96; (with_reducible refine (spec_l1In.calls a2 0 (wrap64 (a0_0 - 1)) false _ A13.out).mono ?_); rintro e w' ⟨rfl, ⟨nd, rfl⟩⟩; (try first | exact ⟨rfl, _, World.drewN_drewN _ _ _⟩ | exact ⟨rfl, _, Eq.trans (World.drewN_drewN _ _ _) (congrArg (World.drewN _) (Nat.add_assoc _ _ _))⟩))); try go_wp2_with (first | ((with_reducible refine gate_dst (N := 4) rfl ?_); refine boxE_ (N := 4) (cs := #[.int .i64 a0_0, .int .i64 a0_1, .slice A0_2 l0_2.length c0_2, .slice A0_3 l0_3.length c0_3]) (t := 28) ?_; intro gb115 hg w18 hbox hb; have n0_ := Aside0.mk (below_step (bl0_ HB.out) hb); have n1_ := Aside0.mk (hbox); have n2_ := Aside0.mk ((bs0_ hg HB.out : w.heap.size ≤ gb115)); have n3_ := Aside0.mk ((bs0_ hg HB.out : w.heap.size ≤ gb115)); clear HB; have HB := n0_; have BK115 := n1_; have GW115 := n2_; have GE115 := n3_; clear n0_ n1_ n2_ n3_; clear hb hbox hg; have hcz19_0 : w18.cell? ⟨gb115, 0, none⟩ = some (.int .i64 a0_0) := (blk_cell BK115.out 0).trans rfl; have hcz19_1 : w18.cell? ⟨gb115, 1, none⟩ = some (.int .i64 a0_1) := (blk_cell BK115.out 1).trans rfl; have hcz19_2 : w18.cell? ⟨gb115, 2, none⟩ = some (.slice A0_2 l0_2.length c0_2) := (blk_cell BK115.out 2).trans rfl; have hcz19_3 : w18.cell? ⟨gb115, 3, none⟩ = some (.slice A0_3 l0_3.length c0_3) := (blk_cell BK115.out 3).trans rfl; have hfz19_0 := blk_frozen BK115.out 0; have hfz19_1 := blk_frozen BK115.out 1; have hfz19_2 := blk_frozen BK115.out 2; have hfz19_3 := blk_frozen BK115.out 3) | (go_at_call 96; (with_reducible refine (spec_l1In.calls a2 0 (wrap64 (a0_0 - 1)) false _ A13.out).mono ?_); rintro e w' ⟨rfl, ⟨nd, rfl⟩⟩; (try first | exact ⟨rfl, _, World.drewN_drewN _ _ _⟩ | exact ⟨rfl, _, Eq.trans (World.drewN_drewN _ _ _) (congrArg (World.drewN _) (Nat.add_assoc _ _ _))⟩))))
   go_ret2
   exact ⟨er_, bl1_ HB.out GE115.out⟩


def spec_l1Has.l0 : Nat → Int → List Int → Int → Int → Option (Bool)
  | 0, _, _, _, _ => none
  | k + 1, x1, x7, x8, x9 => if x9 < x8 then (if 0 ≤ x9 then (if x9 < (x7.length : Int) then (if (rd x7 x9) = x1 then (some true) else (spec_l1Has.l0 k x1 x7 x8 (wrap64 (x9 + 1)))) else (none)) else (none)) else (some false)
def spec_l1Has.f (k : Nat) (l0 : List Int) (a1 : Int) : Option (Bool) := spec_l1Has.l0 k a1 l0 (l0.length : Int) 0
theorem spec_l1Has.mono_l : ∀ k, (∀ y0 y1 y2 y3, LeO (spec_l1Has.l0 k y0 y1 y2 y3) (spec_l1Has.l0 (k + 1) y0 y1 y2 y3))
  | 0 => fun _ _ _ _ r h => by simp [spec_l1Has.l0] at h
  | k + 1 => by
    have ih0 := spec_l1Has.mono_l k
    · intro y0 y1 y2 y3
      unfold spec_l1Has.l0
      repeat' first
      | (with_reducible exact ih0 _ _ _ _)
      | (with_reducible exact LeO.refl _)
      | (with_reducible exact LeO.none _)
      | (with_reducible refine LeO.ite ?_ ?_)
      | (with_reducible refine LeO.bind ?_ (fun _ => ?_))
      | exact ih0 _ _ _ _
      | exact LeO.none _
      | refine LeO.ite ?_ ?_
      | refine LeO.bind ?_ (fun _ => ?_)
theorem spec_l1Has.mono : ∀ a0 a1 k, LeO (spec_l1Has.f k a0 a1) (spec_l1Has.f (k + 1) a0 a1) := by
  intro a0 a1 k
  have ih0 := spec_l1Has.mono_l k
  unfold spec_l1Has.f
  repeat' first
      | (with_reducible exact ih0 _ _ _ _)
      | (with_reducible exact LeO.refl _)
      | (with_reducible exact LeO.none _)
      | (with_reducible refine LeO.ite ?_ ?_)
      | (with_reducible refine LeO.bind ?_ (fun _ => ?_))
      | exact ih0 _ _ _ _
      | exact LeO.none _
      | refine LeO.ite ?_ ?_
      | refine LeO.bind ?_ (fun _ => ?_)
set_option maxHeartbeats 8000000 in
set_option maxRecDepth 100000 in
theorem spec_l1Has.calls (k : Nat) (A0 : Option Addr) (c0 : Nat) (l0 : List Int) (a1 : Int) (r : Bool) (w : World) (hr0 : Kd.C (Kd.int .i64) w A0 l0.length l0) (hc0 : l0.length ≤ c0) (h : spec_l1Has.f k l0 a1 = some r) :
    Calls Try.prog 126 #[.slice A0 l0.length c0, .int .i64 a1] w fun e w' => e = .returned (.bool r) ∧ Drawn0 w w' := by
  have HR0 := Aside0.mk hr0
  have HC0 := Aside0.mk hc0
  clear hr0 hc0
  have H : (spec_l1Has.l0 k a1 l0 (l0.length : Int) 0) = some r := h
  clear h
  have H' := Aside0.mk H
  clear H
  go_enter Try.func126, Try.ntmps126
  go_wp2
  go_loopg [9] k (fun kq v9 w' => ∃ (x9_1 : Int), v9 = .int .i64 x9_1 ∧ Aside0 (spec_l1Has.l0 kq a1 l0 (l0.length : Int) x9_1 = some r) ∧ Aside0 (kq ≤ k) ∧ Drawn0 w w')
  case atStart => exact ⟨(0), rs_, H', ⟨Nat.le_refl _⟩, by repeat (first | exact Drawn0.refl _ | apply Drawn0.step)⟩
  case round =>
    clear H'
    try clear c1
    try clear p2
    obtain ⟨x9_1, rfl, HA, HK1, ⟨m1, rfl⟩⟩ := hrel
    cases gk with
    | zero => exact absurd HA.out (by simp [spec_l1Has.l0])
    | succ k1 =>
      have H := HA.out
      clear HA
      simp only [spec_l1Has.l0] at H
      by_cases c3 : x9_1 < (l0.length : Int)
      · rw [if_pos c3] at H
        have c3b0 : decide (x9_1 < (l0.length : Int)) = true := decide_eq_true c3
        clear c3
        by_cases c4 : 0 ≤ x9_1
        · rw [if_pos c4] at H
          have c4b0 : decide (0 ≤ x9_1) = true := decide_eq_true c4
          clear c4
          by_cases c5 : x9_1 < (l0.length : Int)
          · rw [if_pos c5] at H
            have c5b0 : decide (x9_1 < (l0.length : Int)) = true := decide_eq_true c5
            clear c5
            by_cases c6 : (rd l0 x9_1) = a1
            · rw [if_pos c6] at H
              have c6b0 : ((rd l0 x9_1) == a1) = true := beq_iff_eq.mpr c6
              have c6b1 : ((rd l0 x9_1) != a1) = false := bne_eq_false_iff_eq.mpr c6
              clear c6
              obtain rfl := Option.some.inj H
              have p120 : 0 ≤ (x9_1 : Int) := of_decide_eq_true as_
              have q120 : x9_1 < (l0.length : Int) := of_decide_eq_true as_
              obtain ⟨ad120, e120, hx120_0⟩ := Kd.at_int HR0.out x9_1 p120 q120
              cases e120
              replace p120 := eq_true p120
              replace q120 := eq_true q120
              go_wp2
              go_ret
              exact ⟨by first | rfl | (simp; done) | (simp [*]; done), by repeat (first | exact Drawn0.refl _ | apply Drawn0.step)⟩
            · rw [if_neg c6] at H
              have c6b0 : ((rd l0 x9_1) == a1) = false := beq_eq_false_iff_ne.mpr c6
              have c6b1 : ((rd l0 x9_1) != a1) = true := bne_iff_ne.mpr c6
              have H' := Aside0.mk H
              clear H
              have p120 : 0 ≤ (x9_1 : Int) := of_decide_eq_true as_
              have q120 : x9_1 < (l0.length : Int) := of_decide_eq_true as_
              obtain ⟨ad120, e120, hx120_0⟩ := Kd.at_int HR0.out x9_1 p120 q120
              cases e120
              replace p120 := eq_true p120
              replace q120 := eq_true q120
              go_wp2
              go_roundg k1
              case measure => have := HK1.out; omega
              case rel => exact ⟨(wrap64 (x9_1 + 1)), rs_, H', ⟨by have := HK1.out; omega⟩, by repeat (first | exact Drawn0.refl _ | apply Drawn0.step)⟩
          · rw [if_neg c5] at H
            exact absurd H (by simp)
        · rw [if_neg c4] at H
          exact absurd H (by simp)
      · rw [if_neg c3] at H
        have c3b0 : decide (x9_1 < (l0.length : Int)) = false := decide_eq_false c3
        clear c3
        obtain rfl := Option.some.inj H
        go_wp2
        go_ret
        exact ⟨by first | rfl | (simp; done) | (simp [*]; done), by repeat (first | exact Drawn0.refl _ | apply Drawn0.step)⟩


def spec_fiHas.f (k : Nat) (a0_0 : Int) (a0_1 : Int) (l0_2 : List Int) (l0_3 : List Int) (a1 : Bool) (a2 : Int) (a3 : Int) : Option (Bool) := (spec_fiEdge.f a0_0 a0_1 l0_2 l0_3 a1 a2 a3).bind fun bt122 => (if a1 = true then ((spec_l1Has.f k l0_3 bt122.1).bind fun t124 => (some t124)) else ((spec_l1Has.f k l0_2 bt122.1).bind fun t125 => (some t125)))
theorem spec_fiHas.mono : ∀ a0 a1 a2 a3 a4 a5 a6 k, LeO (spec_fiHas.f k a0 a1 a2 a3 a4 a5 a6) (spec_fiHas.f (k + 1) a0 a1 a2 a3 a4 a5 a6) := by
 intro a0 a1 a2 a3 a4 a5 a6 k
 unfold spec_fiHas.f
 repeat' first
   | (with_reducible exact spec_l1Has.mono _ _ _)
   | (with_reducible exact LeO.refl _)
   | (with_reducible exact LeO.none _)
   | (with_reducible refine LeO.ite ?_ ?_)
   | (with_reducible refine LeO.bind ?_ (fun _ => ?_))
   | exact spec_l1Has.mono _ _ _
   | exact LeO.none _
   | refine LeO.ite ?_ ?_
   | refine LeO.bind ?_ (fun _ => ?_)
set_option maxHeartbeats 8000000 in
set_option maxRecDepth 100000 in
theorem spec_fiHas.calls (k : Nat) (a0_0 : Int) (a0_1 : Int) (A0_2 : Option Addr) (c0_2 : Nat) (l0_2 : List Int) (A0_3 : Option Addr) (c0_3 : Nat) (l0_3 : List Int) (a1 : Bool) (a2 : Int) (a3 : Int) (r : Bool) (w : World) (hr0_2 : Kd.C (Kd.int .i64) w A0_2 l0_2.length l0_2) (hc0_2 : l0_2.length ≤ c0_2) (hr0_3 : Kd.C (Kd.int .i64) w A0_3 l0_3.length l0_3) (hc0_3 : l0_3.length ≤ c0_3) (h : spec_fiHas.f k a0_0 a0_1 l0_2 l0_3 a1 a2 a3 = some r) :
  Calls Try.prog 78 #[.agg #[.int .i64 a0_0, .int .i64 a0_1, .slice A0_2 l0_2.length c0_2, .slice A0_3 l0_3.length c0_3], .bool a1, .int .i64 a2, .int .i64 a3] w fun e w' => e = .returned (.bool r) ∧ Below w.heap.size w w' := by
 have hu28 := Try.underlying28
 have HR0_2 := Aside0.mk hr0_2
 have HC0_2 := Aside0.mk hc0_2
 clear hr0_2 hc0_2
 have HR0_3 := Aside0.mk hr0_3
 have HC0_3 := Aside0.mk hc0_3
 clear hr0_3 hc0_3
 have HB := Aside0.mk (Below.refl w.heap.size w)
 have H : ((spec_fiEdge.f a0_0 a0_1 l0_2 l0_3 a1 a2 a3).bind fun bt122 => (if a1 = true then ((spec_l1Has.f k l0_3 bt122.1).bind fun t124 => (some t124)) else ((spec_l1Has.f k l0_2 bt122.1).bind fun t125 => (some t125)))) = some r := h
 clear h
 replace H := Option.bind_eq_some_iff.mp H
 obtain ⟨⟨t122, t123⟩, A50, H⟩ := H
 replace H : (if a1 = true then ((spec_l1Has.f k l0_3 t122).bind fun t124 => (some t124)) else ((spec_l1Has.f k l0_2 t122).bind fun t125 => (some t125))) = some r := H
 have A5 := Aside0.mk A50
 clear A50
 by_cases c6 : a1 = true
 ·subst c6
  have H1 : ((spec_l1Has.f k l0_3 t122).bind fun t124 => (some t124)) = some r := by rw [if_pos rfl] at H; exact H
  clear H
  have H := H1
  clear H1
  replace H := Option.bind_eq_some_iff.mp H
  obtain ⟨t124, A70, H⟩ := H
  replace H : (some t124) = some r := H
  have A7 := Aside0.mk A70
  clear A70
  obtain rfl := Option.some.inj H
  go_enter Try.func78, Try.ntmps78
  go_wp2_with (first | ((with_reducible refine gate_dst (N := 4) rfl ?_); refine boxE_ (N := 4) (cs := #[.int .i64 a0_0, .int .i64 a0_1, .slice A0_2 l0_2.length c0_2, .slice A0_3 l0_3.length c0_3]) (t := 28) ?_; intro gb121 hg w8 hbox hb; have n0_ := Aside0.mk (below_step (bl0_ HB.out) hb); have n1_ := Aside0.mk (hbox); have n2_ := Aside0.mk ((bs0_ hg HB.out : w.heap.size ≤ gb121)); have n3_ := Aside0.mk ((bs0_ hg HB.out : w.heap.size ≤ gb121)); clear HB; have HB := n0_; have BK121 := n1_; have GW121 := n2_; have GE121 := n3_; clear n0_ n1_ n2_ n3_; clear hb hbox hg; have hcz9_0 : w8.cell? ⟨gb121, 0, none⟩ = some (.int .i64 a0_0) := (blk_cell BK121.out 0).trans rfl; have hcz9_1 : w8.cell? ⟨gb121, 1, none⟩ = some (.int .i64 a0_1) := (blk_cell BK121.out 1).trans rfl; have hcz9_2 : w8.cell? ⟨gb121, 2, none⟩ = some (.slice A0_2 l0_2.length c0_2) := (blk_cell BK121.out 2).trans rfl; have hcz9_3 : w8.cell? ⟨gb121, 3, none⟩ = some (.slice A0_3 l0_3.length c0_3) := (blk_cell BK121.out 3).trans rfl; have hfz9_0 := blk_frozen BK121.out 0; have hfz9_1 := blk_frozen BK121.out 1; have hfz9_2 := blk_frozen BK121.out 2; have hfz9_3 := blk_frozen BK121.out 3) | ((with_reducible refine gate_callee (f := 125) rfl ?_); refine goesL_ (some 16) rfl rfl Try.func125 (by kernel_rfl) rfl #[.agg #[.int .i64 a0_0, .int .i64 a0_1, .slice A0_2 l0_2.length c0_2, .slice A0_3 l0_3.length c0_3], .bool true, .int .i64 a2, .int .i64 a3] rfl ob_ ?_; (with_reducible refine (spec_fiEdge.calls a0_0 a0_1 _ _ l0_2 _ _ l0_3 true a2 a3 t122 t123 _ ?side1 ?side2 ?side3 ?side4 A5.out).mono ?_); (case side1 => exact kc_ (Kd.C_below HR0_2.out HB.out)); (case side2 => exact HC0_2.out); (case side3 => exact kc_ (Kd.C_below HR0_3.out HB.out)); (case side4 => exact HC0_3.out); rintro e w10 ⟨rfl, hb⟩; refine ⟨_, rfl, ?_⟩; have n0_ := Aside0.mk (bb_ BK121.out hb); have n1_ := Aside0.mk (below_step (bl1_ HB.out GE121.out) hb); clear BK121; clear HB; have BK121 := n0_; have HB := n1_; clear n0_ n1_; (try clear hb); (try clear hb2); (try clear hk); (try clear hi); have hcz11_0 : w10.cell? ⟨gb121, 0, none⟩ = some (.int .i64 a0_0) := (blk_cell BK121.out 0).trans rfl; have hcz11_1 : w10.cell? ⟨gb121, 1, none⟩ = some (.int .i64 a0_1) := (blk_cell BK121.out 1).trans rfl; have hcz11_2 : w10.cell? ⟨gb121, 2, none⟩ = some (.slice A0_2 l0_2.length c0_2) := (blk_cell BK121.out 2).trans rfl; have hcz11_3 : w10.cell? ⟨gb121, 3, none⟩ = some (.slice A0_3 l0_3.length c0_3) := (blk_cell BK121.out 3).trans rfl; have hfz11_0 := blk_frozen BK121.out 0; have hfz11_1 := blk_frozen BK121.out 1; have hfz11_2 := blk_frozen BK121.out 2; have hfz11_3 := blk_frozen BK121.out 3) | ((with_reducible refine gate_callee (f := 126) rfl ?_); refine goesL_ (some 23) rfl rfl Try.func126 (by kernel_rfl) rfl #[.slice A0_3 l0_3.length c0_3, .int .i64 t122] rfl ob_ ?_; (with_reducible refine (spec_l1Has.calls k _ _ l0_3 t122 t124 _ ?side1 ?side2 A7.out).mono ?_); (case side1 => exact kc_ (Kd.C_below HR0_3.out HB.out)); (case side2 => exact HC0_3.out); rintro e w' ⟨rfl, ⟨nd, rfl⟩⟩; refine ⟨_, rfl, ?_⟩))
  go_ret
  exact ⟨er_, bl1_ HB.out GE121.out⟩
 ·replace c6 := Bool.eq_false_iff.mpr c6
  subst c6
  have H1 : ((spec_l1Has.f k l0_2 t122).bind fun t125 => (some t125)) = some r := by rw [if_neg (show ¬ (false = true) by decide)] at H; exact H
  clear H
  have H := H1
  clear H1
  replace H := Option.bind_eq_some_iff.mp H
  obtain ⟨t125, A120, H⟩ := H
  replace H : (some t125) = some r := H
  have A12 := Aside0.mk A120
  clear A120
  obtain rfl := Option.some.inj H
  go_enter Try.func78, Try.ntmps78
  go_wp2_with (first | ((with_reducible refine gate_dst (N := 4) rfl ?_); refine boxE_ (N := 4) (cs := #[.int .i64 a0_0, .int .i64 a0_1, .slice A0_2 l0_2.length c0_2, .slice A0_3 l0_3.length c0_3]) (t := 28) ?_; intro gb121 hg w13 hbox hb; have n0_ := Aside0.mk (below_step (bl0_ HB.out) hb); have n1_ := Aside0.mk (hbox); have n2_ := Aside0.mk ((bs0_ hg HB.out : w.heap.size ≤ gb121)); have n3_ := Aside0.mk ((bs0_ hg HB.out : w.heap.size ≤ gb121)); clear HB; have HB := n0_; have BK121 := n1_; have GW121 := n2_; have GE121 := n3_; clear n0_ n1_ n2_ n3_; clear hb hbox hg; have hcz14_0 : w13.cell? ⟨gb121, 0, none⟩ = some (.int .i64 a0_0) := (blk_cell BK121.out 0).trans rfl; have hcz14_1 : w13.cell? ⟨gb121, 1, none⟩ = some (.int .i64 a0_1) := (blk_cell BK121.out 1).trans rfl; have hcz14_2 : w13.cell? ⟨gb121, 2, none⟩ = some (.slice A0_2 l0_2.length c0_2) := (blk_cell BK121.out 2).trans rfl; have hcz14_3 : w13.cell? ⟨gb121, 3, none⟩ = some (.slice A0_3 l0_3.length c0_3) := (blk_cell BK121.out 3).trans rfl; have hfz14_0 := blk_frozen BK121.out 0; have hfz14_1 := blk_frozen BK121.out 1; have hfz14_2 := blk_frozen BK121.out 2; have hfz14_3 := blk_frozen BK121.out 3) | ((with_reducible refine gate_callee (f := 125) rfl ?_); refine goesL_ (some 16) rfl rfl Try.func125 (by kernel_rfl) rfl #[.agg #[.int .i64 a0_0, .int .i64 a0_1, .slice A0_2 l0_2.length c0_2, .slice A0_3 l0_3.length c0_3], .bool false, .int .i64 a2, .int .i64 a3] rfl ob_ ?_; (with_reducible refine (spec_fiEdge.calls a0_0 a0_1 _ _ l0_2 _ _ l0_3 false a2 a3 t122 t123 _ ?side1 ?side2 ?side3 ?side4 A5.out).mono ?_); (case side1 => exact kc_ (Kd.C_below HR0_2.out HB.out)); (case side2 => exact HC0_2.out); (case side3 => exact kc_ (Kd.C_below HR0_3.out HB.out)); (case side4 => exact HC0_3.out); rintro e w15 ⟨rfl, hb⟩; refine ⟨_, rfl, ?_⟩; have n0_ := Aside0.mk (bb_ BK121.out hb); have n1_ := Aside0.mk (below_step (bl1_ HB.out GE121.out) hb); clear BK121; clear HB; have BK121 := n0_; have HB := n1_; clear n0_ n1_; (try clear hb); (try clear hb2); (try clear hk); (try clear hi); have hcz16_0 : w15.cell? ⟨gb121, 0, none⟩ = some (.int .i64 a0_0) := (blk_cell BK121.out 0).trans rfl; have hcz16_1 : w15.cell? ⟨gb121, 1, none⟩ = some (.int .i64 a0_1) := (blk_cell BK121.out 1).trans rfl; have hcz16_2 : w15.cell? ⟨gb121, 2, none⟩ = some (.slice A0_2 l0_2.length c0_2) := (blk_cell BK121.out 2).trans rfl; have hcz16_3 : w15.cell? ⟨gb121, 3, none⟩ = some (.slice A0_3 l0_3.length c0_3) := (blk_cell BK121.out 3).trans rfl; have hfz16_0 := blk_frozen BK121.out 0; have hfz16_1 := blk_frozen BK121.out 1; have hfz16_2 := blk_frozen BK121.out 2; have hfz16_3 := blk_frozen BK121.out 3) | ((with_reducible refine gate_callee (f := 126) rfl ?_); refine goesL_ (some 27) rfl rfl Try.func126 (by kernel_rfl) rfl #[.slice A0_2 l0_2.length c0_2, .int .i64 t122] rfl ob_ ?_; (with_reducible refine (spec_l1Has.calls k _ _ l0_2 t122 t125 _ ?side1 ?side2 A12.out).mono ?_); (case side1 => exact kc_ (Kd.C_below HR0_2.out HB.out)); (case side2 => exact HC0_2.out); rintro e w' ⟨rfl, ⟨nd, rfl⟩⟩; refine ⟨_, rfl, ?_⟩))
  go_ret
  exact ⟨er_, bl1_ HB.out GE121.out⟩


def spec_l1Put.l0 : Nat → List Int → Int → Int → Option (List Int)
 | 0, _, _, _ => none
 | k + 1, x0, x1, x5 => if x5 < (x0.length : Int) then (if 0 ≤ x5 then (if (rd x0 x5) < x1 then (spec_l1Put.l0 k x0 x1 (wrap64 (x5 + 1))) else (if (rd x0 x5) = x1 then (some x0) else ((some (([] : List Int) : List Int)).bind fun y302 => (if x5 ≤ (x0.length : Int) then ((some (x0.take (x5 : Int).toNat : List Int)).bind fun y305 => (if y302.length + y305.length < 17592186044416 then ((some (y302 ++ y305 : List Int)).bind fun y309 => (if y309.length < 17592186044416 then ((some (y309 ++ [x1] : List Int)).bind fun y312 => ((some (x0.drop (x5 : Int).toNat : List Int)).bind fun y315 => (if y312.length + y315.length < 17592186044416 then (some (y312 ++ y315)) else (none)))) else (none))) else (none))) else (none))))) else (none)) else ((some (([] : List Int) : List Int)).bind fun y322 => (if 0 ≤ x5 then (if x5 ≤ (x0.length : Int) then ((some (x0.take (x5 : Int).toNat : List Int)).bind fun y325 => (if y322.length + y325.length < 17592186044416 then ((some (y322 ++ y325 : List Int)).bind fun y329 => (if y329.length < 17592186044416 then ((some (y329 ++ [x1] : List Int)).bind fun y332 => ((some (x0.drop (x5 : Int).toNat : List Int)).bind fun y335 => (if y332.length + y335.length < 17592186044416 then (some (y332 ++ y335)) else (none)))) else (none))) else (none))) else (none)) else (none)))
def spec_l1Put.f (k : Nat) (l0 : List Int) (a1 : Int) : Option (List Int) := spec_l1Put.l0 k l0 a1 0
theorem spec_l1Put.mono_l : ∀ k, (∀ y0 y1 y2, LeO (spec_l1Put.l0 k y0 y1 y2) (spec_l1Put.l0 (k + 1) y0 y1 y2))
 | 0 => fun _ _ _ r h => by simp [spec_l1Put.l0] at h
 | k + 1 => by
  have ih0 := spec_l1Put.mono_l k
  ·intro y0 y1 y2
   unfold spec_l1Put.l0
   repeat' first
   | (with_reducible exact ih0 _ _ _)
   | (with_reducible exact LeO.refl _)
   | (with_reducible exact LeO.none _)
   | (with_reducible refine LeO.ite ?_ ?_)
   | (with_reducible refine LeO.bind ?_ (fun _ => ?_))
   | exact ih0 _ _ _
   | exact LeO.none _
   | refine LeO.ite ?_ ?_
   | refine LeO.bind ?_ (fun _ => ?_)
theorem spec_l1Put.mono : ∀ a0 a1 k, LeO (spec_l1Put.f k a0 a1) (spec_l1Put.f (k + 1) a0 a1) := by
 intro a0 a1 k
 have ih0 := spec_l1Put.mono_l k
 unfold spec_l1Put.f
 repeat' first
   | (with_reducible exact ih0 _ _ _)
   | (with_reducible exact LeO.refl _)
   | (with_reducible exact LeO.none _)
   | (with_reducible refine LeO.ite ?_ ?_)
   | (with_reducible refine LeO.bind ?_ (fun _ => ?_))
   | exact ih0 _ _ _
   | exact LeO.none _
   | refine LeO.ite ?_ ?_
   | refine LeO.bind ?_ (fun _ => ?_)
set_option maxHeartbeats 8000000 in
set_option maxRecDepth 100000 in
theorem spec_l1Put.calls (k : Nat) (P0_ : Nat → Prop) (u9000_ : Value) (l0 : List Int) (a1 : Int) (r : List Int) (w0 w : World) (hB : Below w0.heap.size w0 w) (ho0 : Kd.R (Kd.int .i64) 3 w w0.heap.size P0_ u9000_ l0) (h : spec_l1Put.f k l0 a1 = some r) :
  Calls Try.prog 95 #[u9000_, .int .i64 a1] w fun e w' => ∃ v0_ : Value, e = .returned (v0_) ∧ Kd.R (Kd.int .i64) 3 w' w0.heap.size (fun k_ => (P0_ k_ ∨ w.heap.size ≤ k_)) v0_ r ∧ Below w0.heap.size w0 w' ∧ Kept w w' (fun k_ => P0_ k_) := by
 have HO0 := Aside0.mk (show Kd.R (Kd.int .i64) 3 w w0.heap.size (fun k_ => (P0_ k_ ∨ w.heap.size ≤ k_)) u9000_ l0 from Kd.R_mono ho0 (fun k_ hk => (.inl hk)))
 have HK := Aside0.mk (Kept.refl w (fun k_ => P0_ k_))
 have HW0 := Aside0.mk hB.size
 have HB := Aside0.mk hB
 clear hB
 have H : (spec_l1Put.l0 k l0 a1 0) = some r := h
 clear h
 have H' := Aside0.mk H
 clear H
 go_enter Try.func95, Try.ntmps95
 go_wp2
 go_loopg [5] k (fun kq v5 w' => ∃ (x5_1 : Int), v5 = .int .i64 x5_1 ∧ Aside0 (spec_l1Put.l0 kq l0 a1 x5_1 = some r) ∧ Aside0 (kq ≤ k) ∧ Aside0 (Kd.R (Kd.int .i64) 3 w' w0.heap.size (fun k_ => (P0_ k_ ∨ w.heap.size ≤ k_)) u9000_ l0) ∧ Aside0 (Kept w w' (fun k_ => P0_ k_)) ∧ Aside0 (Below w0.heap.size w0 w'))
 case atStart => exact ⟨(0), rs_, H', ⟨Nat.le_refl _⟩, ⟨kr_ HO0.out⟩, ⟨by repeat (first | (with_reducible first | exact HK.out | apply Kept.alloc | apply Kept.drewN | apply Kept.drew) | exact HK.out)⟩, ⟨bl0_ HB.out⟩⟩
 case round =>
  clear H'
  try clear p2
  obtain ⟨x5_1, rfl, HA, HK1, HO_0, HK, HB⟩ := hrel
  cases gk with
  | zero => exact absurd HA.out (by simp [spec_l1Put.l0])
  | succ k1 =>
   have H := HA.out
   clear HA
   simp only [spec_l1Put.l0] at H
   by_cases c3 : x5_1 < (l0.length : Int)
   ·rw [if_pos c3] at H
    have c3b0 : decide (x5_1 < (l0.length : Int)) = true := decide_eq_true c3
    clear c3
    by_cases c4 : 0 ≤ x5_1
    ·rw [if_pos c4] at H
     have c4b0 : decide (0 ≤ x5_1) = true := decide_eq_true c4
     clear c4
     by_cases c5 : (rd l0 x5_1) < a1
     ·rw [if_pos c5] at H
      have c5b0 : decide ((rd l0 x5_1) < a1) = true := decide_eq_true c5
      clear c5
      have H' := Aside0.mk H
      clear H
      obtain ⟨Ao6, co6, eo6⟩ := Kd.R_slice HO_0.out
      subst eo6
      have p300 : 0 ≤ (x5_1 : Int) := of_decide_eq_true as_
      have q300 : x5_1 < (l0.length : Int) := of_decide_eq_true as_
      obtain ⟨ad300, e300, hx300_0⟩ := Kd.at_int (Kd.R_reads' HO_0.out).2.2 x5_1 p300 q300
      cases e300
      replace p300 := eq_true p300
      replace q300 := eq_true q300
      go_wp2
      go_roundg k1
      case measure => have := HK1.out; omega
      case rel => exact ⟨(wrap64 (x5_1 + 1)), rs_, H', ⟨by have := HK1.out; omega⟩, ⟨kr_ HO_0.out⟩, ⟨by repeat (first | (with_reducible first | exact HK.out | apply Kept.alloc | apply Kept.drewN | apply Kept.drew) | exact HK.out)⟩, ⟨bl0_ HB.out⟩⟩
     ·rw [if_neg c5] at H
      have c5b0 : decide ((rd l0 x5_1) < a1) = false := decide_eq_false c5
      clear c5
      by_cases c7 : (rd l0 x5_1) = a1
      ·rw [if_pos c7] at H
       have c7b0 : ((rd l0 x5_1) == a1) = true := beq_iff_eq.mpr c7
       have c7b1 : ((rd l0 x5_1) != a1) = false := bne_eq_false_iff_eq.mpr c7
       clear c7
       obtain rfl := Option.some.inj H
       obtain ⟨Ao8, co8, eo8⟩ := Kd.R_slice HO_0.out
       subst eo8
       have p300 : 0 ≤ (x5_1 : Int) := of_decide_eq_true as_
       have q300 : x5_1 < (l0.length : Int) := of_decide_eq_true as_
       obtain ⟨ad300, e300, hx300_0⟩ := Kd.at_int (Kd.R_reads' HO_0.out).2.2 x5_1 p300 q300
       cases e300
       replace p300 := eq_true p300
       replace q300 := eq_true q300
       have p301 : 0 ≤ (x5_1 : Int) := of_decide_eq_true as_
       have q301 : x5_1 < (l0.length : Int) := of_decide_eq_true as_
       obtain ⟨ad301, e301, hx301_0⟩ := Kd.at_int (Kd.R_reads' HO_0.out).2.2 x5_1 p301 q301
       obtain rfl : ad300 = ad301 := (by injection e301)
       replace p301 := eq_true p301
       replace q301 := eq_true q301
       go_wp2
       go_ret
       exact ⟨_, er_, by (with_reducible repeat (first | apply Kd.R_alloc | apply Kd.R_drewN | apply Kd.R_drew)); exact HO_0.out, bl0_ HB.out, by repeat (first | (with_reducible first | exact HK.out | apply Kept.alloc | apply Kept.drewN | apply Kept.drew) | exact HK.out)⟩
      ·rw [if_neg c7] at H
       have c7b0 : ((rd l0 x5_1) == a1) = false := beq_eq_false_iff_ne.mpr c7
       have c7b1 : ((rd l0 x5_1) != a1) = true := bne_iff_ne.mpr c7
       obtain ⟨y302, hy302⟩ : ∃ y_ : List Int, y_ = (([] : List Int)) := ⟨_, rfl⟩
       replace H : (if x5_1 ≤ (l0.length : Int) then ((some (l0.take (x5_1 : Int).toNat : List Int)).bind fun y305 => (if y302.length + y305.length < 17592186044416 then ((some (y302 ++ y305 : List Int)).bind fun y309 => (if y309.length < 17592186044416 then ((some (y309 ++ [a1] : List Int)).bind fun y312 => ((some (l0.drop (x5_1 : Int).toNat : List Int)).bind fun y315 => (if y312.length + y315.length < 17592186044416 then (some (y312 ++ y315)) else (none)))) else (none))) else (none))) else (none)) = some r := by first | (rw [hy302]; with_reducible exact H) | (have H2_ := (Option.bind_some _ _).symm.trans H; rw [hy302]; with_reducible exact H2_) | (have H2_ := (Option.bind_some _ _).symm.trans H; with_reducible exact H2_) | with_reducible exact H | (rw [hy302]; exact H) | exact H
       have Ny302 := Aside0.mk hy302
       clear hy302
       have c9b0 := eq_true (of_decide_eq_true as_ : 0 ≤ x5_1)
       by_cases c10 : x5_1 ≤ (l0.length : Int)
       ·rw [if_pos c10] at H
        have c10b0 := eq_true c10
        have c10b1 : decide (x5_1 ≤ (l0.length : Int)) = true := decide_eq_true c10
        clear c10
        obtain ⟨y305, hy305⟩ : ∃ y_ : List Int, y_ = (l0.take (x5_1 : Int).toNat) := ⟨_, rfl⟩
        replace H : (if y302.length + y305.length < 17592186044416 then ((some (y302 ++ y305 : List Int)).bind fun y309 => (if y309.length < 17592186044416 then ((some (y309 ++ [a1] : List Int)).bind fun y312 => ((some (l0.drop (x5_1 : Int).toNat : List Int)).bind fun y315 => (if y312.length + y315.length < 17592186044416 then (some (y312 ++ y315)) else (none)))) else (none))) else (none)) = some r := by first | (rw [hy305]; with_reducible exact H) | (have H2_ := (Option.bind_some _ _).symm.trans H; rw [hy305]; with_reducible exact H2_) | (have H2_ := (Option.bind_some _ _).symm.trans H; with_reducible exact H2_) | with_reducible exact H | (rw [hy305]; exact H) | exact H
        have Ny305 := Aside0.mk hy305
        clear hy305
        by_cases c11 : y302.length + y305.length < 17592186044416
        ·rw [if_pos c11] at H
         have LMc11 := Aside0.mk c11
         clear c11
         obtain ⟨y309, hy309⟩ : ∃ y_ : List Int, y_ = (y302 ++ y305) := ⟨_, rfl⟩
         replace H : (if y309.length < 17592186044416 then ((some (y309 ++ [a1] : List Int)).bind fun y312 => ((some (l0.drop (x5_1 : Int).toNat : List Int)).bind fun y315 => (if y312.length + y315.length < 17592186044416 then (some (y312 ++ y315)) else (none)))) else (none)) = some r := by first | (rw [hy309]; with_reducible exact H) | (have H2_ := (Option.bind_some _ _).symm.trans H; rw [hy309]; with_reducible exact H2_) | (have H2_ := (Option.bind_some _ _).symm.trans H; with_reducible exact H2_) | with_reducible exact H | (rw [hy309]; exact H) | exact H
         have Ny309 := Aside0.mk hy309
         clear hy309
         by_cases c12 : y309.length < 17592186044416
         ·rw [if_pos c12] at H
          have LMc12 := Aside0.mk c12
          clear c12
          obtain ⟨y312, hy312⟩ : ∃ y_ : List Int, y_ = (y309 ++ [a1]) := ⟨_, rfl⟩
          replace H : ((some (l0.drop (x5_1 : Int).toNat : List Int)).bind fun y315 => (if y312.length + y315.length < 17592186044416 then (some (y312 ++ y315)) else (none))) = some r := by first | (rw [hy312]; with_reducible exact H) | (have H2_ := (Option.bind_some _ _).symm.trans H; rw [hy312]; with_reducible exact H2_) | (have H2_ := (Option.bind_some _ _).symm.trans H; with_reducible exact H2_) | with_reducible exact H | (rw [hy312]; exact H) | exact H
          have Ny312 := Aside0.mk hy312
          clear hy312
          have c13b0 := eq_true (of_decide_eq_true as_ : 0 ≤ x5_1)
          have c14b0 := eq_true (of_decide_eq_true as_ : x5_1 ≤ (l0.length : Int))
          obtain ⟨y315, hy315⟩ : ∃ y_ : List Int, y_ = (l0.drop (x5_1 : Int).toNat) := ⟨_, rfl⟩
          replace H : (if y312.length + y315.length < 17592186044416 then (some (y312 ++ y315)) else (none)) = some r := by first | (rw [hy315]; with_reducible exact H) | (have H2_ := (Option.bind_some _ _).symm.trans H; rw [hy315]; with_reducible exact H2_) | (have H2_ := (Option.bind_some _ _).symm.trans H; with_reducible exact H2_) | with_reducible exact H | (rw [hy315]; exact H) | exact H
          have Ny315 := Aside0.mk hy315
          clear hy315
          by_cases c15 : y312.length + y315.length < 17592186044416
          ·rw [if_pos c15] at H
           have LMc15 := Aside0.mk c15
           clear c15
           obtain ⟨y319, hy319⟩ : ∃ y_ : List Int, y_ = (y312 ++ y315) := ⟨_, rfl⟩
           replace H : (some y319) = some r := by first | (rw [hy319]; with_reducible exact H) | (have H2_ := (Option.bind_some _ _).symm.trans H; rw [hy319]; with_reducible exact H2_) | (have H2_ := (Option.bind_some _ _).symm.trans H; with_reducible exact H2_) | with_reducible exact H | (rw [hy319]; exact H) | exact H
           have Ny319 := Aside0.mk hy319
           clear hy319
           obtain rfl := Option.some.inj H
           obtain ⟨Ao16, co16, eo16⟩ := Kd.R_slice HO_0.out
           subst eo16
           have p300 : 0 ≤ (x5_1 : Int) := of_decide_eq_true as_
           have q300 : x5_1 < (l0.length : Int) := of_decide_eq_true as_
           obtain ⟨ad300, e300, hx300_0⟩ := Kd.at_int (Kd.R_reads' HO_0.out).2.2 x5_1 p300 q300
           cases e300
           replace p300 := eq_true p300
           replace q300 := eq_true q300
           have p301 : 0 ≤ (x5_1 : Int) := of_decide_eq_true as_
           have q301 : x5_1 < (l0.length : Int) := of_decide_eq_true as_
           obtain ⟨ad301, e301, hx301_0⟩ := Kd.at_int (Kd.R_reads' HO_0.out).2.2 x5_1 p301 q301
           obtain rfl : ad300 = ad301 := (by injection e301)
           replace p301 := eq_true p301
           replace q301 := eq_true q301
           go_wp2_with (first | ((with_reducible refine gate_dst (N := 34) rfl ?_); refine Kd.R_lit (Kd.int .i64) _ 3 ?hg (N := 34) ?hd (xs := ([] : List Int)) (inner := []) (ok := fun _ => True) (okp := fun _ => True) ?hr ?hp (fun _ hk => hk) trivial (Below.refl _ _) (Nat.le_refl _) (by simp) ?_; (case hd => rfl); (case hg => rfl); (case hr => first | (go_simp; done) | (go_simp; rfl)); (case hp => exact (Reps.none _ _)); intro v303 w17 ho18 hb hg_ hnew_; clear hg_ hnew_; (first | rw [← Ny302.out] at ho18 | (simp only [Int.reduceToNat] at ho18; rw [← Ny302.out] at ho18)); have n0_ := Aside0.mk (Kd.R_elder' (kr_ HO_0.out) (Kd.R_base ho18) hb); have n1_ := Aside0.mk (Kd.R_lower (Kd.R_new' (Kd.R_newM (M := fun k_ => (P0_ k_ ∨ w.heap.size ≤ k_)) ho18 (by first | exact HK.out.1 | exact (show Kept w _ (fun k_ => P0_ k_) from by repeat (first | (with_reducible first | exact HK.out | apply Kept.alloc | apply Kept.drewN | apply Kept.drew) | exact HK.out)).1) (fun k_ h_ => .inr h_)) (Kd.R_lt (kr_ HO_0.out))) (below_size (bl0_ HB.out))); have n2_ := Aside0.mk (Kept.below (S := (fun k_ => P0_ k_)) (by repeat (first | (with_reducible first | exact HK.out | apply Kept.alloc | apply Kept.drewN | apply Kept.drew) | exact HK.out)) hb); have n3_ := Aside0.mk (below_step (bl0_ HB.out) hb); clear HO_0; clear HK; clear HB; have HO_0 := n0_; have HO304 := n1_; have HK := n2_; have HB := n3_; clear n0_ n1_ n2_ n3_; clear hb ho18; have q19 : (x5_1 : Int) ≤ ((l0.length : Int) : Int) := of_decide_eq_true as_; obtain ⟨i019, hi019, _, hsz19, _⟩ := info_parts info3; have hroom19 : l0.length ≤ co16 := (Kd.R_reads' HO_0.out).2.1; have hC19 : Kd.C (Kd.int .i64) _ (some ad300) l0.length l0 := (Kd.R_reads' HO_0.out).2.2; have hcut19 := cut_to (P := Try.prog) 22 3 .i64 Try.underlying22 hi019 (some ad300) l0.length co16 x5_1 (of_decide_eq_true as_) q19 hroom19; have hr19 := Kd.C_take (m := (x5_1 : Int).toNat) hC19 (by omega); have hy19 : y305.length = (x5_1 : Int).toNat := (by rw [Ny305.out, List.length_take]; omega); rw [← Ny305.out] at hr19; rw [← hy19] at hcut19; have HR308 := Aside0.mk hr19; have HC308 := Aside0.mk (show y305.length ≤ co16 from by omega); clear hr19 hC19 hroom19 hi019 hsz19; have KY19 := Aside0.mk hy19; clear hy19; have KL19 := Aside0.mk (show (x5_1 : Int).toNat ≤ l0.length from by omega); replace q19 := eq_true q19) | ((with_reducible refine gate_builtin (b := .append) (xs := #[.tmp 34, .tmp 37]) rfl ?_); at_builtin; refine Kd.R_append_rows (Kd.int .i64) (w0 := w0) w0.heap.size rfl (.tmp 34) (.tmp 37) 22 3 (.int .i64 0) 8 rfl Try.underlying22 info3 rfl (by decide) (by omega) v303 y302 y305 _ _ _ (fun k_ => (P0_ k_ ∨ w.heap.size ≤ k_) ∧ some k_ ≠ (.slice (some ad300) l0.length co16 : Value).ownBlock) (fun _ => False) rfl rfl ?aO ?aR (fun _ _ h => h) (fun _ h => h.elim) ?aF ?aB ?aS ?aL ?_; (case aR => repeat (first | exact (by repeat (first | (with_reducible exact HR308.out) | (with_reducible refine Kd.C_alloc ?_ _) | (with_reducible refine Kd.C_drewN ?_ _) | (with_reducible refine Kd.C_drew ?_) | exact HR308.out)) | (with_reducible refine Kd.C_alloc ?_ _) | (with_reducible refine Kd.C_drewN ?_ _) | (with_reducible refine Kd.C_drew ?_))); (case aB => exact (bl0_ HB.out)); (case aF => exact (fun k_ hk => ⟨(.inr (Nat.le_trans (by first | exact HK.out.1 | exact (show Kept w _ (fun k_ => P0_ k_) from by repeat (first | (with_reducible first | exact HK.out | apply Kept.alloc | apply Kept.drewN | apply Kept.drew) | exact HK.out)).1) hk)), Kd.fresh' (Kd.R_lt (kr_ HO_0.out)) k_ hk⟩)); (case aO => exact (by (with_reducible repeat (first | apply Kd.R_alloc | apply Kd.R_drewN | apply Kd.R_drew)); exact Kd.R_mono HO304.out (fun _ hk => ⟨hk.1.1, hk.2⟩))); (case aS => exact (below_size (bl0_ HB.out))); (case aL => have := LMc11.out; omega); intro v310 w20 ho hb hg hat; rw [← Ny309.out] at ho; have n0_ := Aside0.mk (Kd.R_after (ok := (fun k_ => (P0_ k_ ∨ w.heap.size ≤ k_))) (kr_ HO_0.out) hg hat); have n1_ := Aside0.mk (hb); have n2_ := Aside0.mk (Kept.of_grown (S := (fun k_ => P0_ k_)) hg (by repeat (first | (with_reducible first | exact HK.out | apply Kept.alloc | apply Kept.drewN | apply Kept.drew) | exact HK.out)) (fun k_ e_ => (HO304.out.1 k_ e_).1.1)); have n3_ := Aside0.mk ((show Kd.C (Kd.int .i64) w20 (some ad300) y305.length y305 from by rw [Ny305.out]; exact Kd.C_take (m := (x5_1 : Int).toNat) ((Kd.R_reads' (Kd.R_after (ok := (fun k_ => (P0_ k_ ∨ w.heap.size ≤ k_))) (kr_ HO_0.out) hg hat)).2.2) KL19.out)); have n4_ := Aside0.mk (ho); clear HO_0; clear HB; clear HK; clear HR308; clear HO304; have HO_0 := n0_; have HB := n1_; have HK := n2_; have HR308 := n3_; have HO311 := n4_; clear n0_ n1_ n2_ n3_ n4_; clear ho hb hg hat) | ((with_reducible refine gate_builtin (b := .append) (xs := #[.tmp 39, .tmp 41]) rfl ?_); at_builtin; refine Kd.R_append (Kd.int .i64) (w0 := w0) w0.heap.size rfl (.tmp 39) (.tmp 41) 22 3 (.int .i64 0) 8 rfl Try.underlying22 info3 rfl (by decide) (by omega) v310 y309 a1 [.int .i64 a1] (fun k_ => (P0_ k_ ∨ w.heap.size ≤ k_) ∧ some k_ ≠ (.slice (some ad300) l0.length co16 : Value).ownBlock) (fun _ => False) rfl rfl ?aP (fun _ hk => hk.elim) ?aF ?aO ?aB ?aS ?aL ?_; (case aP => exact rfl); (case aB => exact (bl0_ HB.out)); (case aF => exact (fun k_ hk => ⟨(.inr (Nat.le_trans (by first | exact HK.out.1 | exact (show Kept w _ (fun k_ => P0_ k_) from by repeat (first | (with_reducible first | exact HK.out | apply Kept.alloc | apply Kept.drewN | apply Kept.drew) | exact HK.out)).1) hk)), Kd.fresh' (Kd.R_lt (kr_ HO_0.out)) k_ hk⟩)); (case aO => exact (kr_ HO311.out)); (case aS => exact (below_size (bl0_ HB.out))); (case aL => have := LMc12.out; omega); intro v313 w21 ho hb hg hat; rw [← Ny312.out] at ho; have n0_ := Aside0.mk (Kd.R_after (ok := (fun k_ => (P0_ k_ ∨ w.heap.size ≤ k_))) (kr_ HO_0.out) hg hat); have n1_ := Aside0.mk (hb); have n2_ := Aside0.mk (Kept.of_grown (S := (fun k_ => P0_ k_)) hg (by repeat (first | (with_reducible first | exact HK.out | apply Kept.alloc | apply Kept.drewN | apply Kept.drew) | exact HK.out)) (fun k_ e_ => (HO311.out.1 k_ e_).1)); have n3_ := Aside0.mk ((show Kd.C (Kd.int .i64) w21 (some ad300) y305.length y305 from by rw [Ny305.out]; exact Kd.C_take (m := (x5_1 : Int).toNat) ((Kd.R_reads' (Kd.R_after (ok := (fun k_ => (P0_ k_ ∨ w.heap.size ≤ k_))) (kr_ HO_0.out) hg hat)).2.2) KL19.out)); have n4_ := Aside0.mk (ho); clear HO_0; clear HB; clear HK; clear HR308; clear HO311; have HO_0 := n0_; have HB := n1_; have HK := n2_; have HR308 := n3_; have HO314 := n4_; clear n0_ n1_ n2_ n3_ n4_; clear ho hb hg hat; have q22 : (x5_1 : Int) ≤ ((l0.length : Int) : Int) := of_decide_eq_true as_; obtain ⟨i022, hi022, _, hsz22, _⟩ := info_parts info3; have hroom22 : l0.length ≤ co16 := (Kd.R_reads' HO_0.out).2.1; have hC22 : Kd.C (Kd.int .i64) _ (some ad300) l0.length l0 := (Kd.R_reads' HO_0.out).2.2; have q022 : (0 : Int) ≤ (x5_1 : Int) := of_decide_eq_true as_; have hcut22 := cut_from (P := Try.prog) 22 3 .i64 Try.underlying22 hi022 1 hsz22 (some ad300) l0.length co16 x5_1 q022 q22; have hr22 := Kd.C_drop (m := (x5_1 : Int).toNat) (c := co16) hC22 (by omega) hroom22; obtain ⟨A22, hA22⟩ : ∃ A1, A1 = (if co16 = (x5_1 : Int).toNat then (some ad300) else ((some ad300) : Option Addr).map (·.add ((x5_1 : Int).toNat * 1))) := ⟨_, rfl⟩; obtain ⟨c22, hc22⟩ : ∃ c1, c1 = co16 - (x5_1 : Int).toNat := ⟨_, rfl⟩; have hy22 : y315.length = l0.length - (x5_1 : Int).toNat := (by rw [Ny315.out, List.length_drop] <;> omega); rw [show (l0).drop (x5_1 : Int).toNat = y315 from Ny315.out.symm] at hr22; replace hr22 : Kd.C (Kd.int .i64) _ A22 y315.length y315 := (by rw [hA22]; exact hr22); rw [← hy22, ← hA22, ← hc22] at hcut22; have HR318 := Aside0.mk hr22; have HC318 := Aside0.mk (show y315.length ≤ c22 from by rw [hy22, hc22]; exact Nat.sub_le_sub_right hroom22 _); clear hr22 hC22 hroom22 hi022 hsz22 hc22; have KY22 := Aside0.mk hy22; have KA22 := Aside0.mk hA22; clear hy22 hA22; have KL22 := Aside0.mk (show (x5_1 : Int).toNat ≤ l0.length from by omega); replace q22 := eq_true q22) | ((with_reducible refine gate_builtin (b := .append) (xs := #[.tmp 43, .tmp 46]) rfl ?_); at_builtin; refine Kd.R_append_rows (Kd.int .i64) (w0 := w0) w0.heap.size rfl (.tmp 43) (.tmp 46) 22 3 (.int .i64 0) 8 rfl Try.underlying22 info3 rfl (by decide) (by omega) v313 y312 y315 _ _ _ (fun k_ => (P0_ k_ ∨ w.heap.size ≤ k_) ∧ some k_ ≠ (.slice (some ad300) l0.length co16 : Value).ownBlock) (fun _ => False) rfl rfl ?aO ?aR (fun _ _ h => h) (fun _ h => h.elim) ?aF ?aB ?aS ?aL ?_; (case aR => repeat (first | exact (by repeat (first | (with_reducible exact HR318.out) | (with_reducible refine Kd.C_alloc ?_ _) | (with_reducible refine Kd.C_drewN ?_ _) | (with_reducible refine Kd.C_drew ?_) | exact HR318.out)) | (with_reducible refine Kd.C_alloc ?_ _) | (with_reducible refine Kd.C_drewN ?_ _) | (with_reducible refine Kd.C_drew ?_))); (case aB => exact (bl0_ HB.out)); (case aF => exact (fun k_ hk => ⟨(.inr (Nat.le_trans (by first | exact HK.out.1 | exact (show Kept w _ (fun k_ => P0_ k_) from by repeat (first | (with_reducible first | exact HK.out | apply Kept.alloc | apply Kept.drewN | apply Kept.drew) | exact HK.out)).1) hk)), Kd.fresh' (Kd.R_lt (kr_ HO_0.out)) k_ hk⟩)); (case aO => exact (kr_ HO314.out)); (case aS => exact (below_size (bl0_ HB.out))); (case aL => have := LMc15.out; omega); intro v320 w23 ho hb hg hat; rw [← Ny319.out] at ho; have n0_ := Aside0.mk (Kd.R_after (ok := (fun k_ => (P0_ k_ ∨ w.heap.size ≤ k_))) (kr_ HO_0.out) hg hat); have n1_ := Aside0.mk (hb); have n2_ := Aside0.mk (Kept.of_grown (S := (fun k_ => P0_ k_)) hg (by repeat (first | (with_reducible first | exact HK.out | apply Kept.alloc | apply Kept.drewN | apply Kept.drew) | exact HK.out)) (fun k_ e_ => (HO314.out.1 k_ e_).1)); have n3_ := Aside0.mk ((show Kd.C (Kd.int .i64) w23 (some ad300) y305.length y305 from by rw [Ny305.out]; exact Kd.C_take (m := (x5_1 : Int).toNat) ((Kd.R_reads' (Kd.R_after (ok := (fun k_ => (P0_ k_ ∨ w.heap.size ≤ k_))) (kr_ HO_0.out) hg hat)).2.2) KL19.out)); have n4_ := Aside0.mk ((show Kd.C (Kd.int .i64) w23 A22 y315.length y315 from by rw [Ny315.out, KA22.out]; exact Kd.C_drop (m := (x5_1 : Int).toNat) (c := co16) ((Kd.R_reads' (Kd.R_after (ok := (fun k_ => (P0_ k_ ∨ w.heap.size ≤ k_))) (kr_ HO_0.out) hg hat)).2.2) KL22.out ((Kd.R_reads' (Kd.R_after (ok := (fun k_ => (P0_ k_ ∨ w.heap.size ≤ k_))) (kr_ HO_0.out) hg hat)).2.1))); have n5_ := Aside0.mk (ho); clear HO_0; clear HB; clear HK; clear HR308; clear HR318; clear HO314; have HO_0 := n0_; have HB := n1_; have HK := n2_; have HR308 := n3_; have HR318 := n4_; have HO321 := n5_; clear n0_ n1_ n2_ n3_ n4_ n5_; clear ho hb hg hat))
           go_ret
           exact ⟨_, er_, by (with_reducible repeat (first | apply Kd.R_alloc | apply Kd.R_drewN | apply Kd.R_drew)); exact Kd.R_mono HO321.out (fun _ hk => hk.1), bl0_ HB.out, by repeat (first | (with_reducible first | exact HK.out | apply Kept.alloc | apply Kept.drewN | apply Kept.drew) | exact HK.out)⟩
          ·rw [if_neg c15] at H
           exact absurd H (by simp)
         ·rw [if_neg c12] at H
          exact absurd H (by simp)
        ·rw [if_neg c11] at H
         exact absurd H (by simp)
       ·rw [if_neg c10] at H
        exact absurd H (by simp)
    ·rw [if_neg c4] at H
     exact absurd H (by simp)
   ·rw [if_neg c3] at H
    have c3b0 : decide (x5_1 < (l0.length : Int)) = false := decide_eq_false c3
    clear c3
    obtain ⟨y322, hy322⟩ : ∃ y_ : List Int, y_ = (([] : List Int)) := ⟨_, rfl⟩
    replace H : (if 0 ≤ x5_1 then (if x5_1 ≤ (l0.length : Int) then ((some (l0.take (x5_1 : Int).toNat : List Int)).bind fun y325 => (if y322.length + y325.length < 17592186044416 then ((some (y322 ++ y325 : List Int)).bind fun y329 => (if y329.length < 17592186044416 then ((some (y329 ++ [a1] : List Int)).bind fun y332 => ((some (l0.drop (x5_1 : Int).toNat : List Int)).bind fun y335 => (if y332.length + y335.length < 17592186044416 then (some (y332 ++ y335)) else (none)))) else (none))) else (none))) else (none)) else (none)) = some r := by first | (rw [hy322]; with_reducible exact H) | (have H2_ := (Option.bind_some _ _).symm.trans H; rw [hy322]; with_reducible exact H2_) | (have H2_ := (Option.bind_some _ _).symm.trans H; with_reducible exact H2_) | with_reducible exact H | (rw [hy322]; exact H) | exact H
    have Ny322 := Aside0.mk hy322
    clear hy322
    by_cases c24 : 0 ≤ x5_1
    ·rw [if_pos c24] at H
     have c24b0 := eq_true c24
     have c24b1 : decide (0 ≤ x5_1) = true := decide_eq_true c24
     clear c24
     by_cases c25 : x5_1 ≤ (l0.length : Int)
     ·rw [if_pos c25] at H
      have c25b0 := eq_true c25
      have c25b1 : decide (x5_1 ≤ (l0.length : Int)) = true := decide_eq_true c25
      clear c25
      obtain ⟨y325, hy325⟩ : ∃ y_ : List Int, y_ = (l0.take (x5_1 : Int).toNat) := ⟨_, rfl⟩
      replace H : (if y322.length + y325.length < 17592186044416 then ((some (y322 ++ y325 : List Int)).bind fun y329 => (if y329.length < 17592186044416 then ((some (y329 ++ [a1] : List Int)).bind fun y332 => ((some (l0.drop (x5_1 : Int).toNat : List Int)).bind fun y335 => (if y332.length + y335.length < 17592186044416 then (some (y332 ++ y335)) else (none)))) else (none))) else (none)) = some r := by first | (rw [hy325]; with_reducible exact H) | (have H2_ := (Option.bind_some _ _).symm.trans H; rw [hy325]; with_reducible exact H2_) | (have H2_ := (Option.bind_some _ _).symm.trans H; with_reducible exact H2_) | with_reducible exact H | (rw [hy325]; exact H) | exact H
      have Ny325 := Aside0.mk hy325
      clear hy325
      by_cases c26 : y322.length + y325.length < 17592186044416
      ·rw [if_pos c26] at H
       have LMc26 := Aside0.mk c26
       clear c26
       obtain ⟨y329, hy329⟩ : ∃ y_ : List Int, y_ = (y322 ++ y325) := ⟨_, rfl⟩
       replace H : (if y329.length < 17592186044416 then ((some (y329 ++ [a1] : List Int)).bind fun y332 => ((some (l0.drop (x5_1 : Int).toNat : List Int)).bind fun y335 => (if y332.length + y335.length < 17592186044416 then (some (y332 ++ y335)) else (none)))) else (none)) = some r := by first | (rw [hy329]; with_reducible exact H) | (have H2_ := (Option.bind_some _ _).symm.trans H; rw [hy329]; with_reducible exact H2_) | (have H2_ := (Option.bind_some _ _).symm.trans H; with_reducible exact H2_) | with_reducible exact H | (rw [hy329]; exact H) | exact H
       have Ny329 := Aside0.mk hy329
       clear hy329
       by_cases c27 : y329.length < 17592186044416
       ·rw [if_pos c27] at H
        have LMc27 := Aside0.mk c27
        clear c27
        obtain ⟨y332, hy332⟩ : ∃ y_ : List Int, y_ = (y329 ++ [a1]) := ⟨_, rfl⟩
        replace H : ((some (l0.drop (x5_1 : Int).toNat : List Int)).bind fun y335 => (if y332.length + y335.length < 17592186044416 then (some (y332 ++ y335)) else (none))) = some r := by first | (rw [hy332]; with_reducible exact H) | (have H2_ := (Option.bind_some _ _).symm.trans H; rw [hy332]; with_reducible exact H2_) | (have H2_ := (Option.bind_some _ _).symm.trans H; with_reducible exact H2_) | with_reducible exact H | (rw [hy332]; exact H) | exact H
        have Ny332 := Aside0.mk hy332
        clear hy332
        have c28b0 := eq_true (of_decide_eq_true as_ : 0 ≤ x5_1)
        have c29b0 := eq_true (of_decide_eq_true as_ : x5_1 ≤ (l0.length : Int))
        obtain ⟨y335, hy335⟩ : ∃ y_ : List Int, y_ = (l0.drop (x5_1 : Int).toNat) := ⟨_, rfl⟩
        replace H : (if y332.length + y335.length < 17592186044416 then (some (y332 ++ y335)) else (none)) = some r := by first | (rw [hy335]; with_reducible exact H) | (have H2_ := (Option.bind_some _ _).symm.trans H; rw [hy335]; with_reducible exact H2_) | (have H2_ := (Option.bind_some _ _).symm.trans H; with_reducible exact H2_) | with_reducible exact H | (rw [hy335]; exact H) | exact H
        have Ny335 := Aside0.mk hy335
        clear hy335
        by_cases c30 : y332.length + y335.length < 17592186044416
        ·rw [if_pos c30] at H
         have LMc30 := Aside0.mk c30
         clear c30
         obtain ⟨y339, hy339⟩ : ∃ y_ : List Int, y_ = (y332 ++ y335) := ⟨_, rfl⟩
         replace H : (some y339) = some r := by first | (rw [hy339]; with_reducible exact H) | (have H2_ := (Option.bind_some _ _).symm.trans H; rw [hy339]; with_reducible exact H2_) | (have H2_ := (Option.bind_some _ _).symm.trans H; with_reducible exact H2_) | with_reducible exact H | (rw [hy339]; exact H) | exact H
         have Ny339 := Aside0.mk hy339
         clear hy339
         obtain rfl := Option.some.inj H
         obtain ⟨Ao31, co31, eo31⟩ := Kd.R_slice HO_0.out
         subst eo31
         go_wp2_with (first | ((with_reducible refine gate_dst (N := 34) rfl ?_); refine Kd.R_lit (Kd.int .i64) _ 3 ?hg (N := 34) ?hd (xs := ([] : List Int)) (inner := []) (ok := fun _ => True) (okp := fun _ => True) ?hr ?hp (fun _ hk => hk) trivial (Below.refl _ _) (Nat.le_refl _) (by simp) ?_; (case hd => rfl); (case hg => rfl); (case hr => first | (go_simp; done) | (go_simp; rfl)); (case hp => exact (Reps.none _ _)); intro v323 w32 ho33 hb hg_ hnew_; clear hg_ hnew_; (first | rw [← Ny322.out] at ho33 | (simp only [Int.reduceToNat] at ho33; rw [← Ny322.out] at ho33)); have n0_ := Aside0.mk (Kd.R_elder' (kr_ HO_0.out) (Kd.R_base ho33) hb); have n1_ := Aside0.mk (Kd.R_lower (Kd.R_new' (Kd.R_newM (M := fun k_ => (P0_ k_ ∨ w.heap.size ≤ k_)) ho33 (by first | exact HK.out.1 | exact (show Kept w _ (fun k_ => P0_ k_) from by repeat (first | (with_reducible first | exact HK.out | apply Kept.alloc | apply Kept.drewN | apply Kept.drew) | exact HK.out)).1) (fun k_ h_ => .inr h_)) (Kd.R_lt (kr_ HO_0.out))) (below_size (bl0_ HB.out))); have n2_ := Aside0.mk (Kept.below (S := (fun k_ => P0_ k_)) (by repeat (first | (with_reducible first | exact HK.out | apply Kept.alloc | apply Kept.drewN | apply Kept.drew) | exact HK.out)) hb); have n3_ := Aside0.mk (below_step (bl0_ HB.out) hb); clear HO_0; clear HK; clear HB; have HO_0 := n0_; have HO324 := n1_; have HK := n2_; have HB := n3_; clear n0_ n1_ n2_ n3_; clear hb ho33; have q34 : (x5_1 : Int) ≤ ((l0.length : Int) : Int) := of_decide_eq_true as_; obtain ⟨i034, hi034, _, hsz34, _⟩ := info_parts info3; have hroom34 : l0.length ≤ co31 := (Kd.R_reads' HO_0.out).2.1; have hC34 : Kd.C (Kd.int .i64) _ Ao31 l0.length l0 := (Kd.R_reads' HO_0.out).2.2; have hcut34 := cut_to (P := Try.prog) 22 3 .i64 Try.underlying22 hi034 Ao31 l0.length co31 x5_1 (of_decide_eq_true as_) q34 hroom34; have hr34 := Kd.C_take (m := (x5_1 : Int).toNat) hC34 (by omega); have hy34 : y325.length = (x5_1 : Int).toNat := (by rw [Ny325.out, List.length_take]; omega); rw [← Ny325.out] at hr34; rw [← hy34] at hcut34; have HR328 := Aside0.mk hr34; have HC328 := Aside0.mk (show y325.length ≤ co31 from by omega); clear hr34 hC34 hroom34 hi034 hsz34; have KY34 := Aside0.mk hy34; clear hy34; have KL34 := Aside0.mk (show (x5_1 : Int).toNat ≤ l0.length from by omega); replace q34 := eq_true q34) | ((with_reducible refine gate_builtin (b := .append) (xs := #[.tmp 34, .tmp 37]) rfl ?_); at_builtin; refine Kd.R_append_rows (Kd.int .i64) (w0 := w0) w0.heap.size rfl (.tmp 34) (.tmp 37) 22 3 (.int .i64 0) 8 rfl Try.underlying22 info3 rfl (by decide) (by omega) v323 y322 y325 _ _ _ (fun k_ => (P0_ k_ ∨ w.heap.size ≤ k_) ∧ some k_ ≠ (.slice Ao31 l0.length co31 : Value).ownBlock) (fun _ => False) rfl rfl ?aO ?aR (fun _ _ h => h) (fun _ h => h.elim) ?aF ?aB ?aS ?aL ?_; (case aR => repeat (first | exact (by repeat (first | (with_reducible exact HR328.out) | (with_reducible refine Kd.C_alloc ?_ _) | (with_reducible refine Kd.C_drewN ?_ _) | (with_reducible refine Kd.C_drew ?_) | exact HR328.out)) | (with_reducible refine Kd.C_alloc ?_ _) | (with_reducible refine Kd.C_drewN ?_ _) | (with_reducible refine Kd.C_drew ?_))); (case aB => exact (bl0_ HB.out)); (case aF => exact (fun k_ hk => ⟨(.inr (Nat.le_trans (by first | exact HK.out.1 | exact (show Kept w _ (fun k_ => P0_ k_) from by repeat (first | (with_reducible first | exact HK.out | apply Kept.alloc | apply Kept.drewN | apply Kept.drew) | exact HK.out)).1) hk)), Kd.fresh' (Kd.R_lt (kr_ HO_0.out)) k_ hk⟩)); (case aO => exact (by (with_reducible repeat (first | apply Kd.R_alloc | apply Kd.R_drewN | apply Kd.R_drew)); exact Kd.R_mono HO324.out (fun _ hk => ⟨hk.1.1, hk.2⟩))); (case aS => exact (below_size (bl0_ HB.out))); (case aL => have := LMc26.out; omega); intro v330 w35 ho hb hg hat; rw [← Ny329.out] at ho; have n0_ := Aside0.mk (Kd.R_after (ok := (fun k_ => (P0_ k_ ∨ w.heap.size ≤ k_))) (kr_ HO_0.out) hg hat); have n1_ := Aside0.mk (hb); have n2_ := Aside0.mk (Kept.of_grown (S := (fun k_ => P0_ k_)) hg (by repeat (first | (with_reducible first | exact HK.out | apply Kept.alloc | apply Kept.drewN | apply Kept.drew) | exact HK.out)) (fun k_ e_ => (HO324.out.1 k_ e_).1.1)); have n3_ := Aside0.mk ((show Kd.C (Kd.int .i64) w35 Ao31 y325.length y325 from by rw [Ny325.out]; exact Kd.C_take (m := (x5_1 : Int).toNat) ((Kd.R_reads' (Kd.R_after (ok := (fun k_ => (P0_ k_ ∨ w.heap.size ≤ k_))) (kr_ HO_0.out) hg hat)).2.2) KL34.out)); have n4_ := Aside0.mk (ho); clear HO_0; clear HB; clear HK; clear HR328; clear HO324; have HO_0 := n0_; have HB := n1_; have HK := n2_; have HR328 := n3_; have HO331 := n4_; clear n0_ n1_ n2_ n3_ n4_; clear ho hb hg hat) | ((with_reducible refine gate_builtin (b := .append) (xs := #[.tmp 39, .tmp 41]) rfl ?_); at_builtin; refine Kd.R_append (Kd.int .i64) (w0 := w0) w0.heap.size rfl (.tmp 39) (.tmp 41) 22 3 (.int .i64 0) 8 rfl Try.underlying22 info3 rfl (by decide) (by omega) v330 y329 a1 [.int .i64 a1] (fun k_ => (P0_ k_ ∨ w.heap.size ≤ k_) ∧ some k_ ≠ (.slice Ao31 l0.length co31 : Value).ownBlock) (fun _ => False) rfl rfl ?aP (fun _ hk => hk.elim) ?aF ?aO ?aB ?aS ?aL ?_; (case aP => exact rfl); (case aB => exact (bl0_ HB.out)); (case aF => exact (fun k_ hk => ⟨(.inr (Nat.le_trans (by first | exact HK.out.1 | exact (show Kept w _ (fun k_ => P0_ k_) from by repeat (first | (with_reducible first | exact HK.out | apply Kept.alloc | apply Kept.drewN | apply Kept.drew) | exact HK.out)).1) hk)), Kd.fresh' (Kd.R_lt (kr_ HO_0.out)) k_ hk⟩)); (case aO => exact (kr_ HO331.out)); (case aS => exact (below_size (bl0_ HB.out))); (case aL => have := LMc27.out; omega); intro v333 w36 ho hb hg hat; rw [← Ny332.out] at ho; have n0_ := Aside0.mk (Kd.R_after (ok := (fun k_ => (P0_ k_ ∨ w.heap.size ≤ k_))) (kr_ HO_0.out) hg hat); have n1_ := Aside0.mk (hb); have n2_ := Aside0.mk (Kept.of_grown (S := (fun k_ => P0_ k_)) hg (by repeat (first | (with_reducible first | exact HK.out | apply Kept.alloc | apply Kept.drewN | apply Kept.drew) | exact HK.out)) (fun k_ e_ => (HO331.out.1 k_ e_).1)); have n3_ := Aside0.mk ((show Kd.C (Kd.int .i64) w36 Ao31 y325.length y325 from by rw [Ny325.out]; exact Kd.C_take (m := (x5_1 : Int).toNat) ((Kd.R_reads' (Kd.R_after (ok := (fun k_ => (P0_ k_ ∨ w.heap.size ≤ k_))) (kr_ HO_0.out) hg hat)).2.2) KL34.out)); have n4_ := Aside0.mk (ho); clear HO_0; clear HB; clear HK; clear HR328; clear HO331; have HO_0 := n0_; have HB := n1_; have HK := n2_; have HR328 := n3_; have HO334 := n4_; clear n0_ n1_ n2_ n3_ n4_; clear ho hb hg hat; have q37 : (x5_1 : Int) ≤ ((l0.length : Int) : Int) := of_decide_eq_true as_; obtain ⟨i037, hi037, _, hsz37, _⟩ := info_parts info3; have hroom37 : l0.length ≤ co31 := (Kd.R_reads' HO_0.out).2.1; have hC37 : Kd.C (Kd.int .i64) _ Ao31 l0.length l0 := (Kd.R_reads' HO_0.out).2.2; have q037 : (0 : Int) ≤ (x5_1 : Int) := of_decide_eq_true as_; have hcut37 := cut_from (P := Try.prog) 22 3 .i64 Try.underlying22 hi037 1 hsz37 Ao31 l0.length co31 x5_1 q037 q37; have hr37 := Kd.C_drop (m := (x5_1 : Int).toNat) (c := co31) hC37 (by omega) hroom37; obtain ⟨A37, hA37⟩ : ∃ A1, A1 = (if co31 = (x5_1 : Int).toNat then Ao31 else (Ao31 : Option Addr).map (·.add ((x5_1 : Int).toNat * 1))) := ⟨_, rfl⟩; obtain ⟨c37, hc37⟩ : ∃ c1, c1 = co31 - (x5_1 : Int).toNat := ⟨_, rfl⟩; have hy37 : y335.length = l0.length - (x5_1 : Int).toNat := (by rw [Ny335.out, List.length_drop] <;> omega); rw [show (l0).drop (x5_1 : Int).toNat = y335 from Ny335.out.symm] at hr37; replace hr37 : Kd.C (Kd.int .i64) _ A37 y335.length y335 := (by rw [hA37]; exact hr37); rw [← hy37, ← hA37, ← hc37] at hcut37; have HR338 := Aside0.mk hr37; have HC338 := Aside0.mk (show y335.length ≤ c37 from by rw [hy37, hc37]; exact Nat.sub_le_sub_right hroom37 _); clear hr37 hC37 hroom37 hi037 hsz37 hc37; have KY37 := Aside0.mk hy37; have KA37 := Aside0.mk hA37; clear hy37 hA37; have KL37 := Aside0.mk (show (x5_1 : Int).toNat ≤ l0.length from by omega); replace q37 := eq_true q37) | ((with_reducible refine gate_builtin (b := .append) (xs := #[.tmp 43, .tmp 46]) rfl ?_); at_builtin; refine Kd.R_append_rows (Kd.int .i64) (w0 := w0) w0.heap.size rfl (.tmp 43) (.tmp 46) 22 3 (.int .i64 0) 8 rfl Try.underlying22 info3 rfl (by decide) (by omega) v333 y332 y335 _ _ _ (fun k_ => (P0_ k_ ∨ w.heap.size ≤ k_) ∧ some k_ ≠ (.slice Ao31 l0.length co31 : Value).ownBlock) (fun _ => False) rfl rfl ?aO ?aR (fun _ _ h => h) (fun _ h => h.elim) ?aF ?aB ?aS ?aL ?_; (case aR => repeat (first | exact (by repeat (first | (with_reducible exact HR338.out) | (with_reducible refine Kd.C_alloc ?_ _) | (with_reducible refine Kd.C_drewN ?_ _) | (with_reducible refine Kd.C_drew ?_) | exact HR338.out)) | (with_reducible refine Kd.C_alloc ?_ _) | (with_reducible refine Kd.C_drewN ?_ _) | (with_reducible refine Kd.C_drew ?_))); (case aB => exact (bl0_ HB.out)); (case aF => exact (fun k_ hk => ⟨(.inr (Nat.le_trans (by first | exact HK.out.1 | exact (show Kept w _ (fun k_ => P0_ k_) from by repeat (first | (with_reducible first | exact HK.out | apply Kept.alloc | apply Kept.drewN | apply Kept.drew) | exact HK.out)).1) hk)), Kd.fresh' (Kd.R_lt (kr_ HO_0.out)) k_ hk⟩)); (case aO => exact (kr_ HO334.out)); (case aS => exact (below_size (bl0_ HB.out))); (case aL => have := LMc30.out; omega); intro v340 w38 ho hb hg hat; rw [← Ny339.out] at ho; have n0_ := Aside0.mk (Kd.R_after (ok := (fun k_ => (P0_ k_ ∨ w.heap.size ≤ k_))) (kr_ HO_0.out) hg hat); have n1_ := Aside0.mk (hb); have n2_ := Aside0.mk (Kept.of_grown (S := (fun k_ => P0_ k_)) hg (by repeat (first | (with_reducible first | exact HK.out | apply Kept.alloc | apply Kept.drewN | apply Kept.drew) | exact HK.out)) (fun k_ e_ => (HO334.out.1 k_ e_).1)); have n3_ := Aside0.mk ((show Kd.C (Kd.int .i64) w38 Ao31 y325.length y325 from by rw [Ny325.out]; exact Kd.C_take (m := (x5_1 : Int).toNat) ((Kd.R_reads' (Kd.R_after (ok := (fun k_ => (P0_ k_ ∨ w.heap.size ≤ k_))) (kr_ HO_0.out) hg hat)).2.2) KL34.out)); have n4_ := Aside0.mk ((show Kd.C (Kd.int .i64) w38 A37 y335.length y335 from by rw [Ny335.out, KA37.out]; exact Kd.C_drop (m := (x5_1 : Int).toNat) (c := co31) ((Kd.R_reads' (Kd.R_after (ok := (fun k_ => (P0_ k_ ∨ w.heap.size ≤ k_))) (kr_ HO_0.out) hg hat)).2.2) KL37.out ((Kd.R_reads' (Kd.R_after (ok := (fun k_ => (P0_ k_ ∨ w.heap.size ≤ k_))) (kr_ HO_0.out) hg hat)).2.1))); have n5_ := Aside0.mk (ho); clear HO_0; clear HB; clear HK; clear HR328; clear HR338; clear HO334; have HO_0 := n0_; have HB := n1_; have HK := n2_; have HR328 := n3_; have HR338 := n4_; have HO341 := n5_; clear n0_ n1_ n2_ n3_ n4_ n5_; clear ho hb hg hat))
         go_ret
         exact ⟨_, er_, by (with_reducible repeat (first | apply Kd.R_alloc | apply Kd.R_drewN | apply Kd.R_drew)); exact Kd.R_mono HO341.out (fun _ hk => hk.1), bl0_ HB.out, by repeat (first | (with_reducible first | exact HK.out | apply Kept.alloc | apply Kept.drewN | apply Kept.drew) | exact HK.out)⟩
        ·rw [if_neg c30] at H
         exact absurd H (by simp)
       ·rw [if_neg c27] at H
        exact absurd H (by simp)
      ·rw [if_neg c26] at H
       exact absurd H (by simp)
     ·rw [if_neg c25] at H
      exact absurd H (by simp)
    ·rw [if_neg c24] at H
     exact absurd H (by simp)

end Go.Proofs.Yteaglkpplgbpaaa.P
