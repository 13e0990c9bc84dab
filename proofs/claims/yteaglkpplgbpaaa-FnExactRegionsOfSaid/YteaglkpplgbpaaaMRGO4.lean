/- For every input the law FnExactRegionsOf answers true: the program's RegionsOf tells what the reference's RegionsOf tells; no condition. (part 4 of the proof; the words of the kit's print tool and the texts of this seat, merged by a program) -/
import Derived.Test.YteaglkpplgbpaaaMRGO3
namespace Go.Proofs.Yteaglkpplgbpaaa.P
open Go.RowKit Go.Proofs.YteaglkpplgbpaaaW.PrintWords Go.Proofs.YteaglkpplgbpaaaW.PrintLast Go.Proofs.YteaglkpplgbpaaaW.PrintMore
attribute [local go_sem] max2_int min2_int max_two min_two max_three min_three max_four min_four   -- for this text's walks alone
set_option linter.unusedVariables false
set_option linter.unusedSimpArgs false

mutual
def spec_liRegions.l0 : Nat → Int → Int → List Bool → List (List Int) → Int → Int → Int → Int → List Int → List Int → Option ((List (List Int)))
 | 0, _, _, _, _, _, _, _, _, _, _ => none
 | k + 1, x3, x4, x5, x6, x27, x28, x343000, x343001, x343002, x343003 => if x28 < x27 then (if 0 ≤ x28 then (if x28 < (x5.length : Int) then (if rdOf false x5 x28 = true then (spec_liRegions.l0 k x3 x4 x5 x6 x27 (wrap64 (x28 + 1)) x343000 x343001 x343002 x343003) else (spec_liRegions.l1 k x3 x4 (x5.set (x28 : Int).toNat true) x6 (([x28] : List Int)) ([] : List Int) false 0 x27 x28 x343000 x343001 x343002 x343003)) else (none)) else (none)) else (some x6)
def spec_liRegions.l1 : Nat → Int → Int → List Bool → List (List Int) → List Int → List Int → Bool → Int → Int → Int → Int → Int → List Int → List Int → Option ((List (List Int)))
 | 0, _, _, _, _, _, _, _, _, _, _, _, _, _, _ => none
 | k + 1, x3, x4, x5, x6, x8, x9, x10, x11, x27, x28, x343000, x343001, x343002, x343003 => if x11 < (x8.length : Int) then (if 0 ≤ x11 then (if x3 = 0 then (none) else ((spec_l1Put.f k x9 (rd x8 x11)).bind fun t357 => (spec_liRegions.l2 k x3 x4 x5 x6 x8 t357 x10 x11 (Int.tmod (rd x8 x11) x3) (wrap64 (Int.tdiv (rd x8 x11) x3)) 0 x27 x28 x343000 x343001 x343002 x343003))) else (none)) else (if x10 = true then (spec_liRegions.l0 k x3 x4 x5 x6 x27 (wrap64 (x28 + 1)) x343000 x343001 x343002 x343003) else (if x6.length < 5864062014805 then (spec_liRegions.l0 k x3 x4 x5 (x6 ++ [x9]) x27 (wrap64 (x28 + 1)) x343000 x343001 x343002 x343003) else (none)))
def spec_liRegions.l2 : Nat → Int → Int → List Bool → List (List Int) → List Int → List Int → Bool → Int → Int → Int → Int → Int → Int → Int → Int → List Int → List Int → Option ((List (List Int)))
 | 0, _, _, _, _, _, _, _, _, _, _, _, _, _, _, _, _, _ => none
 | k + 1, x3, x4, x5, x6, x8, x9, x10, x11, x12, x13, x14, x27, x28, x343000, x343001, x343002, x343003 => if x14 < 4 then ((spec_fiHas.f k x343000 x343001 x343002 x343003 false x12 x13).bind fun t360 => ((spec_fiHas.f k x343000 x343001 x343002 x343003 true (wrap64 (x12 + 1)) x13).bind fun t361 => ((spec_fiHas.f k x343000 x343001 x343002 x343003 false x12 (wrap64 (x13 + 1))).bind fun t362 => ((spec_fiHas.f k x343000 x343001 x343002 x343003 true x12 x13).bind fun t363 => ((some (([t360, t361, t362, t363] : List Bool) : List Bool)).bind fun y364 => (if 0 ≤ x14 then (if x14 < (y364.length : Int) then ((some (([0, 1, 0, (-1)] : List Int) : List Int)).bind fun y368 => (if x14 < (y368.length : Int) then ((some (([(-1), 0, 1, 0] : List Int) : List Int)).bind fun y372 => (if x14 < (y372.length : Int) then (if rdOf false y364 x14 = true then (spec_liRegions.l2 k x3 x4 x5 x6 x8 x9 x10 x11 x12 x13 (wrap64 (x14 + 1)) x27 x28 x343000 x343001 x343002 x343003) else ((spec_l1In.f (wrap64 (x12 + (rd y368 x14))) 0 (wrap64 (x3 - 1))).bind fun t376 => (if t376 = true then ((spec_l1In.f (wrap64 (x13 + (rd y372 x14))) 0 (wrap64 (x4 - 1))).bind fun t377 => (spec_liRegions.j3 k x3 x4 x5 x6 x8 x9 x10 x11 x12 x13 x14 (wrap64 (x12 + (rd y368 x14))) (wrap64 (x13 + (rd y372 x14))) x27 x28 (!t377) x343000 x343001 x343002 x343003)) else (spec_liRegions.j3 k x3 x4 x5 x6 x8 x9 x10 x11 x12 x13 x14 (wrap64 (x12 + (rd y368 x14))) (wrap64 (x13 + (rd y372 x14))) x27 x28 true x343000 x343001 x343002 x343003)))) else (none))) else (none))) else (none)) else (none))))))) else (spec_liRegions.l1 k x3 x4 x5 x6 x8 x9 x10 (wrap64 (x11 + 1)) x27 x28 x343000 x343001 x343002 x343003)
def spec_liRegions.j3 : Nat → Int → Int → List Bool → List (List Int) → List Int → List Int → Bool → Int → Int → Int → Int → Int → Int → Int → Int → Bool → Int → Int → List Int → List Int → Option ((List (List Int)))
 | 0, _, _, _, _, _, _, _, _, _, _, _, _, _, _, _, _, _, _, _, _ => none
 | k + 1, x3, x4, x5, x6, x8, x9, x10, x11, x12, x13, x14, x16, x17, x27, x28, x104, x343000, x343001, x343002, x343003 => if x104 = true then (spec_liRegions.l2 k x3 x4 x5 x6 x8 x9 true x11 x12 x13 (wrap64 (x14 + 1)) x27 x28 x343000 x343001 x343002 x343003) else (if 0 ≤ (wrap64 ((wrap64 (x17 * x3)) + x16)) then (if (wrap64 ((wrap64 (x17 * x3)) + x16)) < (x5.length : Int) then (if (rdOf false x5 (wrap64 ((wrap64 (x17 * x3)) + x16)) = true) then (spec_liRegions.l2 k x3 x4 x5 x6 x8 x9 x10 x11 x12 x13 (wrap64 (x14 + 1)) x27 x28 x343000 x343001 x343002 x343003) else (if x8.length < 17592186044416 then (spec_liRegions.l2 k x3 x4 (x5.set ((wrap64 ((wrap64 (x17 * x3)) + x16)) : Int).toNat true) x6 (x8 ++ [wrap64 ((wrap64 (x17 * x3)) + x16)]) x9 x10 x11 x12 x13 (wrap64 (x14 + 1)) x27 x28 x343000 x343001 x343002 x343003) else (none))) else (none)) else (none))
end
def spec_liRegions.f (k : Nat) (a0_0 : Int) (a0_1 : Int) (l0_2 : List Int) (l0_3 : List Int) : Option ((List (List Int))) := if 0 ≤ (wrap64 (a0_0 * a0_1)) then (if (wrap64 (a0_0 * a0_1) : Int).toNat ≤ 281474976710656 then ((some (List.replicate (wrap64 (a0_0 * a0_1) : Int).toNat false : List Bool)).bind fun y343 => (spec_liRegions.l0 k a0_0 a0_1 y343 ([] : List (List Int)) (y343.length : Int) 0 a0_0 a0_1 l0_2 l0_3)) else (none)) else (none)
theorem spec_liRegions.mono_l : ∀ k, (∀ y0 y1 y2 y3 y4 y5 y6 y7 y8 y9, LeO (spec_liRegions.l0 k y0 y1 y2 y3 y4 y5 y6 y7 y8 y9) (spec_liRegions.l0 (k + 1) y0 y1 y2 y3 y4 y5 y6 y7 y8 y9)) ∧ (∀ y0 y1 y2 y3 y4 y5 y6 y7 y8 y9 y10 y11 y12 y13, LeO (spec_liRegions.l1 k y0 y1 y2 y3 y4 y5 y6 y7 y8 y9 y10 y11 y12 y13) (spec_liRegions.l1 (k + 1) y0 y1 y2 y3 y4 y5 y6 y7 y8 y9 y10 y11 y12 y13)) ∧ (∀ y0 y1 y2 y3 y4 y5 y6 y7 y8 y9 y10 y11 y12 y13 y14 y15 y16, LeO (spec_liRegions.l2 k y0 y1 y2 y3 y4 y5 y6 y7 y8 y9 y10 y11 y12 y13 y14 y15 y16) (spec_liRegions.l2 (k + 1) y0 y1 y2 y3 y4 y5 y6 y7 y8 y9 y10 y11 y12 y13 y14 y15 y16)) ∧ (∀ y0 y1 y2 y3 y4 y5 y6 y7 y8 y9 y10 y11 y12 y13 y14 y15 y16 y17 y18 y19, LeO (spec_liRegions.j3 k y0 y1 y2 y3 y4 y5 y6 y7 y8 y9 y10 y11 y12 y13 y14 y15 y16 y17 y18 y19) (spec_liRegions.j3 (k + 1) y0 y1 y2 y3 y4 y5 y6 y7 y8 y9 y10 y11 y12 y13 y14 y15 y16 y17 y18 y19))
 | 0 => ⟨fun _ _ _ _ _ _ _ _ _ _ r h => by simp [spec_liRegions.l0] at h, fun _ _ _ _ _ _ _ _ _ _ _ _ _ _ r h => by simp [spec_liRegions.l1] at h, fun _ _ _ _ _ _ _ _ _ _ _ _ _ _ _ _ _ r h => by simp [spec_liRegions.l2] at h, fun _ _ _ _ _ _ _ _ _ _ _ _ _ _ _ _ _ _ _ _ r h => by simp [spec_liRegions.j3] at h⟩
 | k + 1 => by
  obtain ⟨ih0, ih1, ih2, ih3⟩ := spec_liRegions.mono_l k
  refine ⟨?_, ?_, ?_, ?_⟩
  ·intro y0 y1 y2 y3 y4 y5 y6 y7 y8 y9
   unfold spec_liRegions.l0
   repeat' first
   | (with_reducible exact ih0 _ _ _ _ _ _ _ _ _ _)
   | (with_reducible exact ih1 _ _ _ _ _ _ _ _ _ _ _ _ _ _)
   | (with_reducible exact ih2 _ _ _ _ _ _ _ _ _ _ _ _ _ _ _ _ _)
   | (with_reducible exact ih3 _ _ _ _ _ _ _ _ _ _ _ _ _ _ _ _ _ _ _ _)
   | (with_reducible exact spec_fiHas.mono _ _ _ _ _ _ _ _)
   | (with_reducible exact spec_l1Put.mono _ _ _)
   | (with_reducible exact LeO.refl _)
   | (with_reducible exact LeO.none _)
   | (with_reducible refine LeO.ite ?_ ?_)
   | (with_reducible refine LeO.bind ?_ (fun _ => ?_))
   | exact ih0 _ _ _ _ _ _ _ _ _ _
   | exact ih1 _ _ _ _ _ _ _ _ _ _ _ _ _ _
   | exact ih2 _ _ _ _ _ _ _ _ _ _ _ _ _ _ _ _ _
   | exact ih3 _ _ _ _ _ _ _ _ _ _ _ _ _ _ _ _ _ _ _ _
   | exact spec_fiHas.mono _ _ _ _ _ _ _ _
   | exact spec_l1Put.mono _ _ _
   | exact LeO.none _
   | refine LeO.ite ?_ ?_
   | refine LeO.bind ?_ (fun _ => ?_)
  ·intro y0 y1 y2 y3 y4 y5 y6 y7 y8 y9 y10 y11 y12 y13
   unfold spec_liRegions.l1
   repeat' first
   | (with_reducible exact ih0 _ _ _ _ _ _ _ _ _ _)
   | (with_reducible exact ih1 _ _ _ _ _ _ _ _ _ _ _ _ _ _)
   | (with_reducible exact ih2 _ _ _ _ _ _ _ _ _ _ _ _ _ _ _ _ _)
   | (with_reducible exact ih3 _ _ _ _ _ _ _ _ _ _ _ _ _ _ _ _ _ _ _ _)
   | (with_reducible exact spec_fiHas.mono _ _ _ _ _ _ _ _)
   | (with_reducible exact spec_l1Put.mono _ _ _)
   | (with_reducible exact LeO.refl _)
   | (with_reducible exact LeO.none _)
   | (with_reducible refine LeO.ite ?_ ?_)
   | (with_reducible refine LeO.bind ?_ (fun _ => ?_))
   | exact ih0 _ _ _ _ _ _ _ _ _ _
   | exact ih1 _ _ _ _ _ _ _ _ _ _ _ _ _ _
   | exact ih2 _ _ _ _ _ _ _ _ _ _ _ _ _ _ _ _ _
   | exact ih3 _ _ _ _ _ _ _ _ _ _ _ _ _ _ _ _ _ _ _ _
   | exact spec_fiHas.mono _ _ _ _ _ _ _ _
   | exact spec_l1Put.mono _ _ _
   | exact LeO.none _
   | refine LeO.ite ?_ ?_
   | refine LeO.bind ?_ (fun _ => ?_)
  ·intro y0 y1 y2 y3 y4 y5 y6 y7 y8 y9 y10 y11 y12 y13 y14 y15 y16
   unfold spec_liRegions.l2
   repeat' first
   | (with_reducible exact ih0 _ _ _ _ _ _ _ _ _ _)
   | (with_reducible exact ih1 _ _ _ _ _ _ _ _ _ _ _ _ _ _)
   | (with_reducible exact ih2 _ _ _ _ _ _ _ _ _ _ _ _ _ _ _ _ _)
   | (with_reducible exact ih3 _ _ _ _ _ _ _ _ _ _ _ _ _ _ _ _ _ _ _ _)
   | (with_reducible exact spec_fiHas.mono _ _ _ _ _ _ _ _)
   | (with_reducible exact spec_l1Put.mono _ _ _)
   | (with_reducible exact LeO.refl _)
   | (with_reducible exact LeO.none _)
   | (with_reducible refine LeO.ite ?_ ?_)
   | (with_reducible refine LeO.bind ?_ (fun _ => ?_))
   | exact ih0 _ _ _ _ _ _ _ _ _ _
   | exact ih1 _ _ _ _ _ _ _ _ _ _ _ _ _ _
   | exact ih2 _ _ _ _ _ _ _ _ _ _ _ _ _ _ _ _ _
   | exact ih3 _ _ _ _ _ _ _ _ _ _ _ _ _ _ _ _ _ _ _ _
   | exact spec_fiHas.mono _ _ _ _ _ _ _ _
   | exact spec_l1Put.mono _ _ _
   | exact LeO.none _
   | refine LeO.ite ?_ ?_
   | refine LeO.bind ?_ (fun _ => ?_)
  ·intro y0 y1 y2 y3 y4 y5 y6 y7 y8 y9 y10 y11 y12 y13 y14 y15 y16 y17 y18 y19
   unfold spec_liRegions.j3
   repeat' first
   | (with_reducible exact ih0 _ _ _ _ _ _ _ _ _ _)
   | (with_reducible exact ih1 _ _ _ _ _ _ _ _ _ _ _ _ _ _)
   | (with_reducible exact ih2 _ _ _ _ _ _ _ _ _ _ _ _ _ _ _ _ _)
   | (with_reducible exact ih3 _ _ _ _ _ _ _ _ _ _ _ _ _ _ _ _ _ _ _ _)
   | (with_reducible exact spec_fiHas.mono _ _ _ _ _ _ _ _)
   | (with_reducible exact spec_l1Put.mono _ _ _)
   | (with_reducible exact LeO.refl _)
   | (with_reducible exact LeO.none _)
   | (with_reducible refine LeO.ite ?_ ?_)
   | (with_reducible refine LeO.bind ?_ (fun _ => ?_))
   | exact ih0 _ _ _ _ _ _ _ _ _ _
   | exact ih1 _ _ _ _ _ _ _ _ _ _ _ _ _ _
   | exact ih2 _ _ _ _ _ _ _ _ _ _ _ _ _ _ _ _ _
   | exact ih3 _ _ _ _ _ _ _ _ _ _ _ _ _ _ _ _ _ _ _ _
   | exact spec_fiHas.mono _ _ _ _ _ _ _ _
   | exact spec_l1Put.mono _ _ _
   | exact LeO.none _
   | refine LeO.ite ?_ ?_
   | refine LeO.bind ?_ (fun _ => ?_)
theorem spec_liRegions.mono : ∀ a0 a1 a2 a3 k, LeO (spec_liRegions.f k a0 a1 a2 a3) (spec_liRegions.f (k + 1) a0 a1 a2 a3) := by
 intro a0 a1 a2 a3 k
 obtain ⟨ih0, ih1, ih2, ih3⟩ := spec_liRegions.mono_l k
 unfold spec_liRegions.f
 repeat' first
   | (with_reducible exact ih0 _ _ _ _ _ _ _ _ _ _)
   | (with_reducible exact ih1 _ _ _ _ _ _ _ _ _ _ _ _ _ _)
   | (with_reducible exact ih2 _ _ _ _ _ _ _ _ _ _ _ _ _ _ _ _ _)
   | (with_reducible exact ih3 _ _ _ _ _ _ _ _ _ _ _ _ _ _ _ _ _ _ _ _)
   | (with_reducible exact spec_fiHas.mono _ _ _ _ _ _ _ _)
   | (with_reducible exact spec_l1Put.mono _ _ _)
   | (with_reducible exact LeO.refl _)
   | (with_reducible exact LeO.none _)
   | (with_reducible refine LeO.ite ?_ ?_)
   | (with_reducible refine LeO.bind ?_ (fun _ => ?_))
   | exact ih0 _ _ _ _ _ _ _ _ _ _
   | exact ih1 _ _ _ _ _ _ _ _ _ _ _ _ _ _
   | exact ih2 _ _ _ _ _ _ _ _ _ _ _ _ _ _ _ _ _
   | exact ih3 _ _ _ _ _ _ _ _ _ _ _ _ _ _ _ _ _ _ _ _
   | exact spec_fiHas.mono _ _ _ _ _ _ _ _
   | exact spec_l1Put.mono _ _ _
   | exact LeO.none _
   | refine LeO.ite ?_ ?_
   | refine LeO.bind ?_ (fun _ => ?_)
def spec_liRegions.T15 : Bool × List (List Nat × List Nat) := (true, [([], []), ([], []), ([0, 1], [0, 1]), ([2], [2]), ([], []), ([3, 4], [3, 4]), ([], []), ([], []), ([6, 7], [6, 7]), ([8], [8]), ([], []), ([9, 10], [9, 10]), ([5, 0, 1, 2, 3, 4, 5], [5]), ([11, 12, 0, 1, 2, 3, 4, 5, 6, 7, 8, 9, 10, 11, 12], [11])])
def spec_liRegions.B15 : List Nat := [0, 0, 3, 7, 0, 31, 0, 0, 192, 448, 0, 1984, 63, 8191]
theorem spec_liRegions.tab15 : rtab .any (opsOf Try.f46 15) = spec_liRegions.T15 := by kernel_rfl
theorem spec_liRegions.bits15 : waitsOk spec_liRegions.T15.2 spec_liRegions.B15 = true := by kernel_rfl
def spec_liRegions.T20 : Bool × List (List Nat × List Nat) := (true, [([], []), ([], []), ([], []), ([0, 1, 2], [0, 1, 2]), ([], []), ([], []), ([5], [5]), ([], []), ([4, 6, 7, 3], [4, 6, 7]), ([], []), ([], []), ([], []), ([11], [11]), ([9, 10, 12, 8], [9, 10, 12]), ([], []), ([], []), ([], []), ([14, 15, 16, 13], [14, 15, 16]), ([3, 8, 13, 17], [3, 8, 13, 17]), ([], []), ([18, 19], [18, 19]), ([20], [20]), ([21, 17, 0, 1, 2, 3, 4, 5, 6, 7, 8, 9, 10, 11, 12, 13, 14, 15, 16, 17, 18, 19, 20, 21], [21])])
def spec_liRegions.B20 : List Nat := [0, 0, 0, 7, 0, 0, 32, 0, 255, 0, 0, 0, 2048, 8191, 0, 0, 0, 131071, 262143, 0, 1048575, 2097151, 4194303]
theorem spec_liRegions.tab20 : rtab .any (opsOf Try.f46 20) = spec_liRegions.T20 := by kernel_rfl
theorem spec_liRegions.bits20 : waitsOk spec_liRegions.T20.2 spec_liRegions.B20 = true := by kernel_rfl
def spec_liRegions.T21 : Bool × List (List Nat × List Nat) := (true, [([], []), ([], []), ([], []), ([1, 2], [1, 2]), ([3], [3]), ([0, 4], [0, 4]), ([], []), ([], []), ([], []), ([7, 8], [7, 8]), ([9], [9]), ([6, 10], [6, 10]), ([5, 0, 1, 2, 3, 4, 5], [5]), ([11, 12, 0, 1, 2, 3, 4, 5, 6, 7, 8, 9, 10, 11, 12], [11])])
def spec_liRegions.B21 : List Nat := [0, 0, 0, 6, 14, 31, 0, 0, 0, 384, 896, 1984, 63, 8191]
theorem spec_liRegions.tab21 : rtab .any (opsOf Try.f46 21) = spec_liRegions.T21 := by kernel_rfl
theorem spec_liRegions.bits21 : waitsOk spec_liRegions.T21.2 spec_liRegions.B21 = true := by kernel_rfl
set_option maxHeartbeats 8000000 in
set_option maxRecDepth 100000 in
theorem spec_liRegions.calls (k : Nat) (a0_0 : Int) (a0_1 : Int) (A0_2 : Option Addr) (c0_2 : Nat) (l0_2 : List Int) (A0_3 : Option Addr) (c0_3 : Nat) (l0_3 : List Int) (r : List (List Int)) (w : World) (hr0_2 : Kd.C (Kd.int .i64) w A0_2 l0_2.length l0_2) (hc0_2 : l0_2.length ≤ c0_2) (hr0_3 : Kd.C (Kd.int .i64) w A0_3 l0_3.length l0_3) (hc0_3 : l0_3.length ≤ c0_3) (h : spec_liRegions.f k a0_0 a0_1 l0_2 l0_3 = some r) :
  Calls Try.prog 46 #[.agg #[.int .i64 a0_0, .int .i64 a0_1, .slice A0_2 l0_2.length c0_2, .slice A0_3 l0_3.length c0_3]] w fun e w' => ∃ v0_ : Value, e = .returned (v0_) ∧ Kd.S (Kd.slice 3 (Kd.int .i64)) 22 w' w.heap.size (fun _ => True) v0_ r ∧ Below w.heap.size w w' := by
 have hu28 := Try.underlying28
 have HR0_2 := Aside0.mk hr0_2
 have HC0_2 := Aside0.mk hc0_2
 clear hr0_2 hc0_2
 have HR0_3 := Aside0.mk hr0_3
 have HC0_3 := Aside0.mk hc0_3
 clear hr0_3 hc0_3
 have HB := Aside0.mk (Below.refl w.heap.size w)
 have H : (if 0 ≤ (wrap64 (a0_0 * a0_1)) then (if (wrap64 (a0_0 * a0_1) : Int).toNat ≤ 281474976710656 then ((some (List.replicate (wrap64 (a0_0 * a0_1) : Int).toNat false : List Bool)).bind fun y343 => (spec_liRegions.l0 k a0_0 a0_1 y343 ([] : List (List Int)) (y343.length : Int) 0 a0_0 a0_1 l0_2 l0_3)) else (none)) else (none)) = some r := h
 clear h
 obtain ⟨ji2, hji2⟩ : ∃ j_ : Int, (wrap64 (a0_0 * a0_1)) = j_ := ⟨_, rfl⟩
 replace H : (if 0 ≤ (ji2) then (if (ji2 : Int).toNat ≤ 281474976710656 then ((some (List.replicate (ji2 : Int).toNat false : List Bool)).bind fun y343 => (spec_liRegions.l0 k a0_0 a0_1 y343 ([] : List (List Int)) (y343.length : Int) 0 a0_0 a0_1 l0_2 l0_3)) else (none)) else (none)) = some r := by first | (rw [hji2] at H; exact H) | (simp only [hji2] at H ⊢; exact H)
 have hji2w : (IntKind.i64.wrap (a0_0 * a0_1)) = ji2 := (i64_w _).trans hji2
 by_cases c3 : 0 ≤ (ji2)
 ·rw [if_pos c3] at H
  have c3b0 := eq_true c3
  have c3b1 : decide (0 ≤ (ji2)) = true := decide_eq_true c3
  clear c3
  by_cases c4 : (ji2 : Int).toNat ≤ 281474976710656
  ·rw [if_pos c4] at H
   have c4b0 := eq_true c4
   have c4b1 : decide ((ji2 : Int).toNat ≤ 281474976710656) = true := decide_eq_true c4
   clear c4
   obtain ⟨y343, hy343⟩ : ∃ y_ : List Bool, y_ = (List.replicate (ji2 : Int).toNat false) := ⟨_, rfl⟩
   replace H : (spec_liRegions.l0 k a0_0 a0_1 y343 ([] : List (List Int)) (y343.length : Int) 0 a0_0 a0_1 l0_2 l0_3) = some r := by first | (rw [hy343]; with_reducible exact H) | (have H2_ := (Option.bind_some _ _).symm.trans H; rw [hy343]; with_reducible exact H2_) | (have H2_ := (Option.bind_some _ _).symm.trans H; with_reducible exact H2_) | with_reducible exact H | (rw [hy343]; exact H) | exact H
   have Ny343 := Aside0.mk hy343
   clear hy343
   have H' := Aside0.mk H
   clear H
   go_enter Try.func46, Try.ntmps46
   try go_wp2_with (first | ((with_reducible refine gate_dst (N := 1) rfl ?_); refine boxE_ (N := 1) (cs := #[.int .i64 a0_0, .int .i64 a0_1, .slice A0_2 l0_2.length c0_2, .slice A0_3 l0_3.length c0_3]) (t := 28) ?_; intro gb342 hg w5 hbox hb; have n0_ := Aside0.mk (below_step (bl0_ HB.out) hb); have n1_ := Aside0.mk (hbox); have n2_ := Aside0.mk ((bs0_ hg HB.out : w.heap.size ≤ gb342)); have n3_ := Aside0.mk ((bs0_ hg HB.out : w.heap.size ≤ gb342)); clear HB; have HB := n0_; have BK342 := n1_; have GW342 := n2_; have GE342 := n3_; clear n0_ n1_ n2_ n3_; clear hb hbox hg))
   have n0_ := Aside0.mk (blk_drew BK342.out)
   have n1_ := Aside0.mk (below_drew1 HB.out)
   clear BK342
   clear HB
   have BK342 := n0_
   have HB := n1_
   clear n0_ n1_
   refine start_ (n := 6) (S := fun w' => w'.cell? ⟨gb342, 0, none⟩ = some (.int .i64 a0_0) ∧ w'.cell? ⟨gb342, 1, none⟩ = some (.int .i64 a0_1) ∧ w'.cell? ⟨gb342, 2, none⟩ = some (.slice A0_2 l0_2.length c0_2) ∧ w'.cell? ⟨gb342, 3, none⟩ = some (.slice A0_3 l0_3.length c0_3)) (ds := []) #[Ff, Ff, Ff, Ff, Ff, Ff] (by kernel_rfl) rfl rfl ⟨(blk_cell BK342.out 0).trans rfl, (blk_cell BK342.out 1).trans rfl, (blk_cell BK342.out 2).trans rfl, (blk_cell BK342.out 3).trans rfl⟩ (fun hHeld => ?_)
   generalize w5.drew = w6 at BK342 HB hHeld ⊢
   refine pure_ (i := 0) (N := some 18) (v := ?_) (a' := ?_) #[Tt, Ff, Ff, Ff, Ff, Ff] rfl rfl (by kernel_rfl) (fun _ _ _ h => h) (Or.inl ⟨by rfl, ?_⟩) ?_ ?_
   rotate_left
   ·intro w'
    go_simp
    with_reducible rfl
   rotate_left
   ·simp only [Act.put, List.setIfInBounds_toArray, List.set_cons_zero, List.set_cons_succ, i64_w, i32_w]
    rfl
   refine pure_ (i := 2) (N := some 20) (v := ?_) (a' := ?_) #[Tt, Ff, Tt, Ff, Ff, Ff] rfl rfl (by kernel_rfl) (fun _ _ _ h => h) (Or.inl ⟨by rfl, ?_⟩) ?_ ?_
   rotate_left
   ·intro w'
    go_simp
    with_reducible rfl
   rotate_left
   ·simp only [Act.put, List.setIfInBounds_toArray, List.set_cons_zero, List.set_cons_succ, i64_w, i32_w]
    rfl
   refine take_ (i := 1) (N := some 19) (v := ?_) (a' := ?_) #[Tt, Tt, Tt, Ff, Ff, Ff] rfl rfl (by kernel_rfl) (fun _ _ _ h => h) (Or.inl ⟨by rfl, ?_⟩) hHeld ?_ ?_
   rotate_left
   ·rintro w' ⟨s0, s1, s2, s3⟩
    go_simp
    with_reducible rfl
   rotate_left
   ·simp only [Act.put, List.setIfInBounds_toArray, List.set_cons_zero, List.set_cons_succ, i64_w, i32_w]
    rfl
   refine pure_ (i := 4) (N := some 3) (v := ?_) (a' := ?_) #[Tt, Tt, Tt, Ff, Tt, Ff] rfl rfl (by kernel_rfl) (fun _ _ _ h => h) (Or.inl ⟨by rfl, ?_⟩) ?_ ?_
   rotate_left
   ·intro w'
    go_simp
    with_reducible rfl
   rotate_left
   ·simp only [Act.put, List.setIfInBounds_toArray, List.set_cons_zero, List.set_cons_succ, i64_w, i32_w]
    rfl
   refine take_ (i := 3) (N := some 21) (v := ?_) (a' := ?_) #[Tt, Tt, Tt, Tt, Tt, Ff] rfl rfl (by kernel_rfl) (fun _ _ _ h => h) (Or.inl ⟨by rfl, ?_⟩) hHeld ?_ ?_
   rotate_left
   ·rintro w' ⟨s0, s1, s2, s3⟩
    go_simp
    with_reducible rfl
   rotate_left
   ·simp only [Act.put, List.setIfInBounds_toArray, List.set_cons_zero, List.set_cons_succ, i64_w, i32_w]
    rfl
   refine pure_ (i := 5) (N := some 4) (v := ?_) (a' := ?_) #[Tt, Tt, Tt, Tt, Tt, Tt] rfl rfl (by kernel_rfl) (fun _ _ _ h => h) (Or.inl ⟨by rfl, ?_⟩) ?_ ?_
   rotate_left
   ·intro w'
    go_simp
    with_reducible rfl
   rotate_left
   ·simp only [Act.put, List.setIfInBounds_toArray, List.set_cons_zero, List.set_cons_succ, i64_w, i32_w]
    rfl
   refine done_ (by kernel_rfl) ?_
   try go_wp2_with (first | ((with_reducible refine gate_dst (N := 25) rfl ?_); refine Kd.R_make Kd.bool _ 4 rfl (N := 25) rfl 112 _ _ rfl ji2 rfl rfl Try.underlying112 (.bool false) 1 info4 rfl (by decide) (by omega) false (ok := fun _ => True) (okp := fun _ => True) rfl (fun _ hk => hk) trivial (of_decide_eq_true as_) (Nat.le_trans (Nat.mul_le_mul_right _ (of_decide_eq_true as_ : ji2.toNat ≤ 281474976710656)) (by omega)) (Below.refl _ _) (Nat.le_refl _) ?_; intro v344 w7 ho8 hb hg_ hnew_; clear hg_ hnew_; (first | rw [← Ny343.out] at ho8 | (simp only [Int.reduceToNat] at ho8; rw [← Ny343.out] at ho8)); have n0_ := Aside0.mk (Kd.R_lower ho8 (below_size (bl1_ HB.out GE342.out))); have n1_ := Aside0.mk (bb_ BK342.out hb); have n2_ := Aside0.mk (below_step (bl1_ HB.out GE342.out) hb); clear BK342; clear HB; have HO345 := n0_; have BK342 := n1_; have HB := n2_; clear n0_ n1_ n2_; clear hb ho8; obtain ⟨Ao9, co9, eo9⟩ := Kd.R_slice HO345.out; subst eo9))
   go_loopg [6, 28] k (fun kq v6 v28 w' => ∃ (x5_1 : List Bool) (x6_1 : List (List Int)) (x28_1 : Int), v28 = .int .i64 x28_1 ∧ Aside0 (spec_liRegions.l0 kq a0_0 a0_1 x5_1 x6_1 (y343.length : Int) x28_1 a0_0 a0_1 l0_2 l0_3 = some r) ∧ Aside0 (kq ≤ k) ∧ Aside0 (Kd.R Kd.bool 4 w' w.heap.size (fun _ => True) (.slice Ao9 y343.length co9) x5_1) ∧ Aside0 (Kd.S (Kd.slice 3 (Kd.int .i64)) 22 w' w.heap.size (fun _ => True) v6 x6_1) ∧ Aside0 (w'.heap[gb342]? = some (.cells #[.int .i64 a0_0, .int .i64 a0_1, (.slice A0_2 l0_2.length c0_2), (.slice A0_3 l0_3.length c0_3)] 28 (0, 0))) ∧ Aside0 (Below w.heap.size w w'))
   case atStart => exact ⟨(y343), (([] : List (List Int))), (0), rs_, H', ⟨Nat.le_refl _⟩, ⟨kr_ HO345.out⟩, ⟨by first | exact Kd.S_nil _ _ _ _ _ | exact Kd.N_nil _ _ _ _ _ | exact Kd.V_nil _ _ _ _ _ | exact Kd.Q_nil _ _ _ _ _ | exact Kd.R_nil _ _ _ _ _⟩, ⟨bk_ BK342.out⟩, ⟨bl1_ HB.out GE342.out⟩⟩
   case round =>
    clear H'
    try clear p2
    try clear c3
    try clear c3b0
    try clear c3b1
    try clear c4
    try clear c4b0
    try clear c4b1
    try clear p6
    obtain ⟨x5_1, x6_1, x28_1, rfl, HA, HK1, HO_5, HO_6, BK342, HB⟩ := hrel
    have hl5_1 := (Kd.R_reads' HO_5.out).1
    rw [hl5_1] at HO_5
    (try simp only [hl5_1])
    (try simp only [hl5_1] at BK342)
    (try simp only [hl5_1] at HO_6)
    cases gk with
    | zero => exact absurd HA.out (by simp [spec_liRegions.l0])
    | succ k1 =>
     have H := HA.out
     clear HA
     simp only [spec_liRegions.l0] at H
     by_cases c10 : x28_1 < (y343.length : Int)
     ·rw [if_pos c10] at H
      have c10b0 : decide (x28_1 < (y343.length : Int)) = true := decide_eq_true c10
      clear c10
      by_cases c11 : 0 ≤ x28_1
      ·rw [if_pos c11] at H
       have c11b0 : decide (0 ≤ x28_1) = true := decide_eq_true c11
       clear c11
       by_cases c12 : x28_1 < (x5_1.length : Int)
       ·rw [if_pos c12] at H
        have c12b0 : decide (x28_1 < (x5_1.length : Int)) = true := decide_eq_true c12
        clear c12
        obtain ⟨bq13, hbq13⟩ : ∃ b_ : Bool, b_ = (rdOf false x5_1 x28_1) := ⟨_, rfl⟩
        replace H : (if bq13 = true then (spec_liRegions.l0 k1 a0_0 a0_1 x5_1 x6_1 (y343.length : Int) (wrap64 (x28_1 + 1)) a0_0 a0_1 l0_2 l0_3) else (spec_liRegions.l1 k1 a0_0 a0_1 (x5_1.set (x28_1 : Int).toNat true) x6_1 (([x28_1] : List Int)) ([] : List Int) false 0 (y343.length : Int) x28_1 a0_0 a0_1 l0_2 l0_3)) = some r := by rw [← hbq13] at H; exact H
        have Nbq13 := Aside0.mk hbq13
        clear hbq13
        by_cases c14 : bq13 = true
        ·subst c14
         have H1 : (spec_liRegions.l0 k1 a0_0 a0_1 x5_1 x6_1 (y343.length : Int) (wrap64 (x28_1 + 1)) a0_0 a0_1 l0_2 l0_3) = some r := by rw [if_pos rfl] at H; exact H
         clear H
         have H := H1
         clear H1
         have H' := Aside0.mk H
         clear H
         have p346 : 0 ≤ (x28_1 : Int) := of_decide_eq_true as_
         have q346 : x28_1 < (x5_1.length : Int) := of_decide_eq_true as_
         obtain ⟨ad346, e346, hx346_0⟩ := Kd.at_bool (Kd.R_reads' HO_5.out).2.2 x28_1 p346 q346
         (try rw [← Nbq13.out] at hx346_0)
         cases e346
         replace p346 := eq_true p346
         replace q346 := eq_true q346
         go_wp2
         (try simp only [← hl5_1])
         go_roundg k1
         case measure => have := HK1.out; omega
         case rel => exact ⟨(x5_1), (x6_1), (wrap64 (x28_1 + 1)), rs_, H', ⟨by have := HK1.out; omega⟩, ⟨by (try simp only [hl5_1]); (with_reducible repeat (first | apply Kd.R_alloc | apply Kd.R_drewN | apply Kd.R_drew)); exact HO_5.out⟩, ⟨by (try simp only [hl5_1]); (with_reducible repeat (first | apply Kd.S_alloc | apply Kd.S_drewN | apply Kd.S_drew)); exact HO_6.out⟩, ⟨by (try simp only [hl5_1]); (with_reducible repeat (first | refine blk_drewN ?_ _ | refine blk_drew ?_ | refine blk_alloc ?_ _)); exact BK342.out⟩, ⟨bl1_ HB.out GE342.out⟩⟩
        ·replace c14 := Bool.eq_false_iff.mpr c14
         subst c14
         have H1 : (spec_liRegions.l1 k1 a0_0 a0_1 (x5_1.set (x28_1 : Int).toNat true) x6_1 (([x28_1] : List Int)) ([] : List Int) false 0 (y343.length : Int) x28_1 a0_0 a0_1 l0_2 l0_3) = some r := by rw [if_neg (show ¬ (false = true) by decide)] at H; exact H
         clear H
         have H := H1
         clear H1
         obtain ⟨y347, hy347⟩ : ∃ y_ : List Bool, y_ = (x5_1.set (x28_1 : Int).toNat true) := ⟨_, rfl⟩
         replace H : (spec_liRegions.l1 k1 a0_0 a0_1 y347 x6_1 (([x28_1] : List Int)) ([] : List Int) false 0 (y343.length : Int) x28_1 a0_0 a0_1 l0_2 l0_3) = some r := by first | (rw [hy347]; with_reducible exact H) | (have H2_ := (Option.bind_some _ _).symm.trans H; rw [hy347]; with_reducible exact H2_) | (have H2_ := (Option.bind_some _ _).symm.trans H; with_reducible exact H2_) | with_reducible exact H | (rw [hy347]; exact H) | exact H
         have Ny347 := Aside0.mk hy347
         clear hy347
         obtain ⟨y348, hy348⟩ : ∃ y_ : List Int, y_ = (([x28_1] : List Int)) := ⟨_, rfl⟩
         replace H : (spec_liRegions.l1 k1 a0_0 a0_1 y347 x6_1 y348 ([] : List Int) false 0 (y343.length : Int) x28_1 a0_0 a0_1 l0_2 l0_3) = some r := by first | (rw [hy348]; with_reducible exact H) | (have H2_ := (Option.bind_some _ _).symm.trans H; rw [hy348]; with_reducible exact H2_) | (have H2_ := (Option.bind_some _ _).symm.trans H; with_reducible exact H2_) | with_reducible exact H | (rw [hy348]; exact H) | exact H
         have Ny348 := Aside0.mk hy348
         clear hy348
         have H' := Aside0.mk H
         clear H
         have p346 : 0 ≤ (x28_1 : Int) := of_decide_eq_true as_
         have q346 : x28_1 < (x5_1.length : Int) := of_decide_eq_true as_
         obtain ⟨ad346, e346, hx346_0⟩ := Kd.at_bool (Kd.R_reads' HO_5.out).2.2 x28_1 p346 q346
         (try rw [← Nbq13.out] at hx346_0)
         cases e346
         replace p346 := eq_true p346
         replace q346 := eq_true q346
         have p15 : 0 ≤ (x28_1 : Int) := of_decide_eq_true as_
         have q15 : (x28_1 : Int) < ((x5_1.length : Int) : Int) := of_decide_eq_true as_
         obtain ⟨go15, co15, eo15, gb15, gl15, cl15, HG15⟩ := Kd.R_form HO_5.out (by omega)
         (first | cases eo15 | (injection eo15 with ea_ en_ ec_; (first | subst ea_ | (injection ea_ with ea_; subst ea_)); subst ec_; clear en_))
         have GB15 := Aside0.mk gb15
         have GG15 := Aside0.mk HG15
         clear gb15 gl15 HG15
         (first | simp only [add_plain] at hx346_0 | skip)
         obtain ⟨hx15_0, hf15_0⟩ := Kd.R_celln false HO_5.out (x28_1 : Int) p15 q15
         replace p15 := eq_true p15
         replace q15 := eq_true q15
         have HP16 := Kd.R_putg HO_5.out (x28_1 : Int) true
         go_wp2_with (first | ((with_reducible refine gate_store (t := 4) (p := 37) rfl ?_); refine store_event (t := 4) (p := 37) (v := ?vo_w17) (w1 := (wr.setCell ⟨go15, (x28_1 : Int).toNat, none⟩ (.bool true))) ?hg ?ho ?hn ?hr ?_; (case ho => rfl); (case hg => rfl); (case hn => rfl); (case hr => first | (go_simp; done) | (go_simp; rfl)); intro w17 hw; have hg : wr.grownBy w17 (some go15) := (by rw [hw]; exact HP16.2); have hp_ : Kd.R Kd.bool 4 w17 w.heap.size (fun _ => True) (.slice (some ⟨go15, 0, none⟩) x5_1.length co9) y347 := (by rw [hw, Ny347.out]; exact HP16.1); clear HP16; have n0_ := Aside0.mk (hp_); have n1_ := Aside0.mk (Kd.S_over' (v := (.slice (some ⟨go15, 0, none⟩) x5_1.length co9)) (by (with_reducible repeat (first | apply Kd.S_alloc | apply Kd.S_drewN | apply Kd.S_drew)); exact HO_6.out) (Kd.R_typed HO_5.out) (by decide) hg); have n2_ := Aside0.mk (blk_grown (g := gb342) (o := .cells #[.int .i64 a0_0, .int .i64 a0_1, .slice A0_2 l0_2.length c0_2, .slice A0_3 l0_3.length c0_3] 28 (0, 0)) (bk_ BK342.out) hg (Kd.R_ne HO_5.out BK342.out (by decide))); have n3_ := Aside0.mk ((by rw [hw]; exact below_set (HB.out) GB15.out : Below w.heap.size w w17)); clear HO_5; clear HO_6; clear BK342; clear HB; have HO_5 := n0_; have HO_6 := n1_; have BK342 := n2_; have HB := n3_; clear n0_ n1_ n2_ n3_; clear hg hw hp_) | ((with_reducible refine gate_dst (N := 39) rfl ?_); refine Kd.R_lit (Kd.int .i64) _ 3 ?hg (N := 39) ?hd (xs := ([x28_1] : List Int)) (inner := [.int .i64 x28_1]) (ok := fun _ => True) (okp := fun _ => True) ?hr ?hp (fun _ hk => hk) trivial (Below.refl _ _) (Nat.le_refl _) (by simp) ?_; (case hd => rfl); (case hg => rfl); (case hr => first | (go_simp; done) | (go_simp; rfl)); (case hp => exact (Reps.one (show Kd.M (Kd.int .i64) _ _ _ x28_1 [.int .i64 x28_1] from rfl) (Reps.none _ _))); intro v349 w18 ho19 hb hg_ hnew_; clear hg_ hnew_; (first | rw [← Ny348.out] at ho19 | (simp only [Int.reduceToNat] at ho19; rw [← Ny348.out] at ho19)); have n0_ := Aside0.mk (Kd.R_below (kr_ HO_5.out) hb); have n1_ := Aside0.mk (Kd.S_elder' (by (with_reducible repeat (first | apply Kd.S_alloc | apply Kd.S_drewN | apply Kd.S_drew)); exact HO_6.out) (Kd.R_base ho19) hb); have n2_ := Aside0.mk (Kd.R_lower ho19 (below_size (bl1_ HB.out GE342.out))); have n3_ := Aside0.mk (bb_ BK342.out hb); have n4_ := Aside0.mk (below_step (bl1_ HB.out GE342.out) hb); clear HO_5; clear HO_6; clear BK342; clear HB; have HO_5 := n0_; have HO_6 := n1_; have HO350 := n2_; have BK342 := n3_; have HB := n4_; clear n0_ n1_ n2_ n3_ n4_; clear hb ho19))
         go_loopg [8, 9, 10, 11] k1 (fun kq v8 v9 v10 v11 w' => ∃ (x5_2 : List Bool) (x8_2 : List Int) (x9_2 : List Int) (x10_2 : Bool) (x11_2 : Int), v10 = .bool x10_2 ∧ v11 = .int .i64 x11_2 ∧ Aside0 (spec_liRegions.l1 kq a0_0 a0_1 x5_2 x6_1 x8_2 x9_2 x10_2 x11_2 (y343.length : Int) x28_1 a0_0 a0_1 l0_2 l0_3 = some r) ∧ Aside0 (kq ≤ k1) ∧ Aside0 (Kd.R Kd.bool 4 w' w.heap.size (fun _ => True) (.slice (some ⟨go15, 0, none⟩) x5_1.length co9) x5_2) ∧ Aside0 (Kd.S (Kd.slice 3 (Kd.int .i64)) 22 w' w.heap.size (fun k_ => some k_ ≠ (v8 : Value).ownBlock ∧ some k_ ≠ (v9 : Value).ownBlock) u6 x6_1) ∧ Aside0 (Kd.R (Kd.int .i64) 3 w' w.heap.size (fun k_ => some k_ ≠ (v9 : Value).ownBlock) v8 x8_2) ∧ Aside0 (Kd.R (Kd.int .i64) 3 w' w.heap.size (fun k_ => some k_ ≠ (v8 : Value).ownBlock) v9 x9_2) ∧ Aside0 (w'.heap[gb342]? = some (.cells #[.int .i64 a0_0, .int .i64 a0_1, (.slice A0_2 l0_2.length c0_2), (.slice A0_3 l0_3.length c0_3)] 28 (0, 0))) ∧ Aside0 (Below w.heap.size w w'))
         case atStart => exact ⟨(y347), (y348), (([] : List Int)), (false), (0), rs_, rs_, H', ⟨Nat.le_refl _⟩, ⟨by (try simp only [hl5_1]); (with_reducible repeat (first | apply Kd.R_alloc | apply Kd.R_drewN | apply Kd.R_drew)); exact HO_5.out⟩, ⟨by (try simp only [hl5_1]); (with_reducible repeat (first | apply Kd.S_alloc | apply Kd.S_drewN | apply Kd.S_drew)); exact Kd.S_mono HO_6.out (fun _ hk => ⟨hk.2, (by simp [Value.ownBlock])⟩)⟩, ⟨by (try simp only [hl5_1]); (with_reducible repeat (first | apply Kd.R_alloc | apply Kd.R_drewN | apply Kd.R_drew)); exact Kd.R_mono HO350.out (fun _ hk => (by simp [Value.ownBlock]))⟩, ⟨by (try simp only [hl5_1]); first | exact Kd.R_nil _ _ _ _ _ | exact Kd.N_nil _ _ _ _ _ | exact Kd.V_nil _ _ _ _ _ | exact Kd.Q_nil _ _ _ _ _ | exact Kd.S_nil _ _ _ _ _⟩, ⟨by (try simp only [hl5_1]); (with_reducible repeat (first | refine blk_drewN ?_ _ | refine blk_drew ?_ | refine blk_alloc ?_ _)); exact BK342.out⟩, ⟨bl1_ HB.out GE342.out⟩⟩
         case round =>
          clear H'
          try clear c1
          try clear p1
          try clear q1
          try clear hx1
          try clear hf1
          try clear p2
          try clear c3
          try clear c3b0
          try clear c3b1
          try clear p3
          try clear q3
          try clear hx3
          try clear c4
          try clear c4b0
          try clear c4b1
          try clear p6
          try clear c10
          try clear c10b0
          try clear c11
          try clear c11b0
          try clear c12
          try clear c12b0
          try clear q13
          try clear c14
          try clear p15
          try clear q15
          try clear hx15
          try clear hf15
          try clear hx15_0
          try clear hx346_0
          try clear p15
          try clear p2
          try clear p346
          try clear p6
          try clear q15
          try clear q346
          obtain ⟨x5_2, x8_2, x9_2, x10_2, x11_2, rfl, rfl, HA, HK2, HO_5, HO_6, HO_8, HO_9, BK342, HB⟩ := hrel
          have hl5_2 := (Kd.R_reads' HO_5.out).1
          rw [hl5_2] at HO_5
          (try simp only [hl5_2])
          (try simp only [hl5_2] at BK342)
          (try simp only [hl5_2] at HO_6)
          (try simp only [hl5_2] at HO_8)
          (try simp only [hl5_2] at HO_9)
          cases gk with
          | zero => exact absurd HA.out (by simp [spec_liRegions.l1])
          | succ k2 =>
           have H := HA.out
           clear HA
           simp only [spec_liRegions.l1] at H
           by_cases c20 : x11_2 < (x8_2.length : Int)
           ·rw [if_pos c20] at H
            have c20b0 : decide (x11_2 < (x8_2.length : Int)) = true := decide_eq_true c20
            clear c20
            by_cases c21 : 0 ≤ x11_2
            ·rw [if_pos c21] at H
             have c21b0 : decide (0 ≤ x11_2) = true := decide_eq_true c21
             clear c21
             by_cases c22 : a0_0 = 0
             ·rw [if_pos c22] at H
              exact absurd H (by simp)
             ·rw [if_neg c22] at H
              have c22b0 : (a0_0 == 0) = false := beq_eq_false_iff_ne.mpr c22
              have c22b1 : (a0_0 != 0) = true := bne_iff_ne.mpr c22
              replace H := Option.bind_eq_some_iff.mp H
              obtain ⟨t357, A230, H⟩ := H
              replace H : (spec_liRegions.l2 k2 a0_0 a0_1 x5_2 x6_1 x8_2 t357 x10_2 x11_2 (Int.tmod (rd x8_2 x11_2) a0_0) (wrap64 (Int.tdiv (rd x8_2 x11_2) a0_0)) 0 (y343.length : Int) x28_1 a0_0 a0_1 l0_2 l0_3) = some r := H
              have A23 := Aside0.mk A230
              clear A230
              have H' := Aside0.mk H
              clear H
              obtain ⟨Ao24, co24, eo24⟩ := Kd.R_slice HO_8.out
              subst eo24
              try go_wp2
              have n0_ := Aside0.mk (Kd.R_drew HO_5.out)
              have n1_ := Aside0.mk (Kd.S_drew HO_6.out)
              have n2_ := Aside0.mk (Kd.R_drew HO_8.out)
              have n3_ := Aside0.mk (Kd.R_drew HO_9.out)
              have n4_ := Aside0.mk (blk_drew BK342.out)
              have n5_ := Aside0.mk (below_drew1 HB.out)
              clear HO_5
              clear HO_6
              clear HO_8
              clear HO_9
              clear BK342
              clear HB
              have HO_5 := n0_
              have HO_6 := n1_
              have HO_8 := n2_
              have HO_9 := n3_
              have BK342 := n4_
              have HB := n5_
              clear n0_ n1_ n2_ n3_ n4_ n5_
              have p354 : 0 ≤ (x11_2 : Int) := of_decide_eq_true as_
              have q354 : x11_2 < (x8_2.length : Int) := of_decide_eq_true as_
              obtain ⟨ad354, e354, hx354_0⟩ := Kd.at_int (Kd.R_reads' HO_8.out).2.2 x11_2 p354 q354
              cases e354
              replace p354 := eq_true p354
              replace q354 := eq_true q354
              have p355 : 0 ≤ (x11_2 : Int) := of_decide_eq_true as_
              have q355 : x11_2 < (x8_2.length : Int) := of_decide_eq_true as_
              obtain ⟨ad355, e355, hx355_0⟩ := Kd.at_int (Kd.R_reads' HO_8.out).2.2 x11_2 p355 q355
              obtain rfl : ad354 = ad355 := (by injection e355)
              replace p355 := eq_true p355
              replace q355 := eq_true q355
              refine start_ (n := 14) (S := fun w' => w'.cell? (ad354.add (x11_2).toNat) = some (.int .i64 (rd x8_2 x11_2)) ∧ w'.cell? (ad354.add (x11_2).toNat) = some (.int .i64 (rd x8_2 x11_2))) (ds := []) #[Ff, Ff, Ff, Ff, Ff, Ff, Ff, Ff, Ff, Ff, Ff, Ff, Ff, Ff] (by kernel_rfl) rfl rfl ⟨hx354_0, hx355_0⟩ (fun hHeld => ?_); refine with_tabW spec_liRegions.tab15 spec_liRegions.bits15 (fun HT_ HW_ => ?_)
              generalize wr.drew = w25 at HO_5 HO_6 HO_8 HO_9 BK342 HB hx354_0 hx355_0 hHeld ⊢
              refine pZ (i := 0) (N := some 46) #[Tt, Ff, Ff, Ff, Ff, Ff, Ff, Ff, Ff, Ff, Ff, Ff, Ff, Ff] ?_
              refine pZ (i := 1) (N := some 47) #[Tt, Tt, Ff, Ff, Ff, Ff, Ff, Ff, Ff, Ff, Ff, Ff, Ff, Ff] ?_
              refine pZ (i := 2) (N := some 48) #[Tt, Tt, Tt, Ff, Ff, Ff, Ff, Ff, Ff, Ff, Ff, Ff, Ff, Ff] ?_
              refine pZ (i := 4) (N := some 50) #[Tt, Tt, Tt, Ff, Tt, Ff, Ff, Ff, Ff, Ff, Ff, Ff, Ff, Ff] ?_
              refine pZ (i := 6) (N := some 52) #[Tt, Tt, Tt, Ff, Tt, Ff, Tt, Ff, Ff, Ff, Ff, Ff, Ff, Ff] ?_
              refine pZ (i := 7) (N := some 53) #[Tt, Tt, Tt, Ff, Tt, Ff, Tt, Tt, Ff, Ff, Ff, Ff, Ff, Ff] ?_
              refine pZ (i := 8) (N := some 54) #[Tt, Tt, Tt, Ff, Tt, Ff, Tt, Tt, Tt, Ff, Ff, Ff, Ff, Ff] ?_
              refine pZ (i := 10) (N := some 56) #[Tt, Tt, Tt, Ff, Tt, Ff, Tt, Tt, Tt, Ff, Tt, Ff, Ff, Ff] ?_
              refine tZ (i := 3) (N := some 49) #[Tt, Tt, Tt, Tt, Tt, Ff, Tt, Tt, Tt, Ff, Tt, Ff, Ff, Ff] ?_
              refine pZ (i := 5) (N := some 51) #[Tt, Tt, Tt, Tt, Tt, Tt, Tt, Tt, Tt, Ff, Tt, Ff, Ff, Ff] ?_
              refine pZ (i := 12) (N := some 12) #[Tt, Tt, Tt, Tt, Tt, Tt, Tt, Tt, Tt, Ff, Tt, Ff, Tt, Ff] ?_
              refine tZ (i := 9) (N := some 55) #[Tt, Tt, Tt, Tt, Tt, Tt, Tt, Tt, Tt, Tt, Tt, Ff, Tt, Ff] ?_
              refine pZ (i := 11) (N := some 57) #[Tt, Tt, Tt, Tt, Tt, Tt, Tt, Tt, Tt, Tt, Tt, Tt, Tt, Ff] ?_
              refine pZ (i := 13) (N := some 13) #[Tt, Tt, Tt, Tt, Tt, Tt, Tt, Tt, Tt, Tt, Tt, Tt, Tt, Tt] ?_
              refine done_ (done_of HT_.out (by kernel_rfl)) ?_
              have p356 : 0 ≤ (x11_2 : Int) := of_decide_eq_true as_
              have q356 : x11_2 < (x8_2.length : Int) := of_decide_eq_true as_
              obtain ⟨ad356, e356, hx356_0⟩ := Kd.at_int (Kd.R_reads' HO_8.out).2.2 x11_2 p356 q356
              obtain rfl : ad354 = ad356 := (by injection e356)
              replace p356 := eq_true p356
              replace q356 := eq_true q356
              obtain ⟨Ao26, co26, eo26⟩ := Kd.R_slice HO_9.out
              subst eo26
              try go_wp2_with (first | ((with_reducible refine gate_callee (f := 95) rfl ?_); refine goesL_ (some 63) rfl rfl Try.func95 (by kernel_rfl) rfl #[.slice Ao26 x9_2.length co26, .int .i64 (rd x8_2 x11_2)] rfl ob_ ?_; (with_reducible refine (spec_l1Put.calls k2 (fun k_ => some k_ = (.slice Ao26 x9_2.length co26 : Value).ownBlock) (.slice Ao26 x9_2.length co26) x9_2 (rd x8_2 x11_2) t357 w _ ?side1 ?side2 A23.out).mono ?_); (case side1 => repeat (first | (with_reducible first | exact HB.out | apply below_alloc | apply pw_below_drewN | apply below_drew1 | refine below_set ?_ GE342.out) | exact HB.out)); (case side2 => exact Kd.R_tight rfl HO_9.out); rintro e w27 ⟨v358, rfl, ho0, hb, hkp⟩; refine ⟨_, rfl, ?_⟩; have n0_ := Aside0.mk (Kd.R_mono (ok' := fun k_ => True) (Kd.R_keptB ((Kd.R_apart' HO_5.out (Kd.R_typed HO_9.out) (by decide))) hkp (fun k_ hk_ hs_ => (hk_.2) hs_)) (fun k_ hk_ => trivial)); have n1_ := Aside0.mk (Kd.S_mono (ok' := fun k_ => some k_ ≠ (.slice (some ad354) x8_2.length co24 : Value).ownBlock ∧ some k_ ≠ (v358 : Value).ownBlock) (Kd.S_keptB (HO_6.out) hkp (fun k_ hk_ hs_ => (hk_.2) hs_)) (fun k_ hk_ => ⟨hk_.1.1, fun e_ => Or.elim (ho0.1 k_ e_.symm) (fun hs_ => hk_.2.1 hs_) (fun hn_ => Nat.not_le.2 hk_.2.2 hn_)⟩)); have n2_ := Aside0.mk (Kd.R_mono (ok' := fun k_ => some k_ ≠ (v358 : Value).ownBlock) (Kd.R_keptB (HO_8.out) hkp (fun k_ hk_ hs_ => (hk_) hs_)) (fun k_ hk_ => fun e_ => Or.elim (ho0.1 k_ e_.symm) (fun hs_ => hk_.2.1 hs_) (fun hn_ => Nat.not_le.2 hk_.2.2 hn_))); have n3_ := Aside0.mk (blk_kept (bk_ BK342.out) hkp (fun hs_ => (fun e_ => (Kd.R_ne HO_9.out BK342.out (by decide)) e_) hs_)); have n4_ := Aside0.mk (Kd.R_mono (ok' := fun k_ => some k_ ≠ (.slice (some ad354) x8_2.length co24 : Value).ownBlock) ho0 (fun k_ hk_ => Or.elim hk_ (fun hs_ => fun e_ => (((HO_8.out).1 k_ e_.symm)) hs_) (fun hn_ => (Kd.fresh' (Kd.R_lt (kr_ HO_8.out)) k_ hn_)))); have n5_ := Aside0.mk (hb); clear HO_5; clear HO_6; clear HO_8; clear BK342; clear HB; clear HO_9; have HO_5 := n0_; have HO_6 := n1_; have HO_8 := n2_; have BK342 := n3_; have HO359 := n4_; have HB := n5_; clear n0_ n1_ n2_ n3_ n4_ n5_; (try clear hb); (try clear hkp); (try clear ho0)))
              go_loopg [8, 10, 14] k2 (fun kq v8 v10 v14 w' => ∃ (x5_3 : List Bool) (x8_3 : List Int) (x10_3 : Bool) (x14_3 : Int), v10 = .bool x10_3 ∧ v14 = .int .i64 x14_3 ∧ Aside0 (spec_liRegions.l2 kq a0_0 a0_1 x5_3 x6_1 x8_3 t357 x10_3 x11_2 (Int.tmod (rd x8_2 x11_2) a0_0) (wrap64 (Int.tdiv (rd x8_2 x11_2) a0_0)) x14_3 (y343.length : Int) x28_1 a0_0 a0_1 l0_2 l0_3 = some r) ∧ Aside0 (kq ≤ k2) ∧ Aside0 (Kd.R Kd.bool 4 w' w.heap.size (fun _ => True) (.slice (some ⟨go15, 0, none⟩) x5_2.length co9) x5_3) ∧ Aside0 (Kd.S (Kd.slice 3 (Kd.int .i64)) 22 w' w.heap.size (fun k_ => some k_ ≠ (v8 : Value).ownBlock ∧ some k_ ≠ (v358 : Value).ownBlock) u6 x6_1) ∧ Aside0 (Kd.R (Kd.int .i64) 3 w' w.heap.size (fun k_ => some k_ ≠ (v358 : Value).ownBlock) v8 x8_3) ∧ Aside0 (Kd.R (Kd.int .i64) 3 w' w.heap.size (fun k_ => some k_ ≠ (v8 : Value).ownBlock) v358 t357) ∧ Aside0 (w'.heap[gb342]? = some (.cells #[.int .i64 a0_0, .int .i64 a0_1, (.slice A0_2 l0_2.length c0_2), (.slice A0_3 l0_3.length c0_3)] 28 (0, 0))) ∧ Aside0 (Below w.heap.size w w'))
              case atStart => exact ⟨(x5_2), (x8_2), (x10_2), (0), rs_, rs_, H', ⟨Nat.le_refl _⟩, ⟨by (try simp only [hl5_1]); (try simp only [hl5_2]); (with_reducible repeat (first | apply Kd.R_alloc | apply Kd.R_drewN | apply Kd.R_drew)); exact HO_5.out⟩, ⟨by (try simp only [hl5_1]); (try simp only [hl5_2]); (with_reducible repeat (first | apply Kd.S_alloc | apply Kd.S_drewN | apply Kd.S_drew)); exact HO_6.out⟩, ⟨by (try simp only [hl5_1]); (try simp only [hl5_2]); (with_reducible repeat (first | apply Kd.R_alloc | apply Kd.R_drewN | apply Kd.R_drew)); exact HO_8.out⟩, ⟨by (try simp only [hl5_1]); (try simp only [hl5_2]); (with_reducible repeat (first | apply Kd.R_alloc | apply Kd.R_drewN | apply Kd.R_drew)); exact HO359.out⟩, ⟨by (try simp only [hl5_1]); (try simp only [hl5_2]); (with_reducible repeat (first | refine blk_drewN ?_ _ | refine blk_drew ?_ | refine blk_alloc ?_ _)); exact BK342.out⟩, ⟨bl1_ HB.out GE342.out⟩⟩
              case round =>
               clear H'
               try clear c1
               try clear p1
               try clear q1
               try clear hx1
               try clear hf1
               try clear c2
               try clear p2
               try clear c3
               try clear c3b0
               try clear c3b1
               try clear p3
               try clear q3
               try clear hx3
               try clear c4
               try clear c4b0
               try clear c4b1
               try clear p6
               try clear c9
               try clear c10
               try clear c10b0
               try clear c11
               try clear c11b0
               try clear c12
               try clear c12b0
               try clear q13
               try clear c14
               try clear p15
               try clear q15
               try clear hx15
               try clear hf15
               try clear c20
               try clear c20b0
               try clear c21
               try clear c21b0
               try clear c22
               try clear c22b0
               try clear c22b1
               try clear hx15_0
               try clear hx346_0
               try clear hx354_0
               try clear hx355_0
               try clear hx356_0
               try clear p1
               try clear p15
               try clear p2
               try clear p3
               try clear p346
               try clear p354
               try clear p355
               try clear p356
               try clear p6
               try clear q1
               try clear q13
               try clear q15
               try clear q3
               try clear q346
               try clear q354
               try clear q355
               try clear q356
               obtain ⟨x5_3, x8_3, x10_3, x14_3, rfl, rfl, HA, HK3, HO_5, HO_6, HO_8, HO_9, BK342, HB⟩ := hrel
               have hl5_3 := (Kd.R_reads' HO_5.out).1
               rw [hl5_3] at HO_5
               (try simp only [hl5_3])
               (try simp only [hl5_3] at BK342)
               (try simp only [hl5_3] at HO_6)
               (try simp only [hl5_3] at HO_8)
               (try simp only [hl5_3] at HO_9)
               cases gk with
               | zero => exact absurd HA.out (by simp [spec_liRegions.l2])
               | succ k3 =>
                have H := HA.out
                clear HA
                simp only [spec_liRegions.l2] at H
                by_cases c28 : x14_3 < 4
                ·rw [if_pos c28] at H
                 have c28b0 : decide (x14_3 < 4) = true := decide_eq_true c28
                 clear c28
                 replace H := Option.bind_eq_some_iff.mp H
                 obtain ⟨t360, A290, H⟩ := H
                 replace H : ((spec_fiHas.f k3 a0_0 a0_1 l0_2 l0_3 true (wrap64 ((Int.tmod (rd x8_2 x11_2) a0_0) + 1)) (wrap64 (Int.tdiv (rd x8_2 x11_2) a0_0))).bind fun t361 => ((spec_fiHas.f k3 a0_0 a0_1 l0_2 l0_3 false (Int.tmod (rd x8_2 x11_2) a0_0) (wrap64 ((wrap64 (Int.tdiv (rd x8_2 x11_2) a0_0)) + 1))).bind fun t362 => ((spec_fiHas.f k3 a0_0 a0_1 l0_2 l0_3 true (Int.tmod (rd x8_2 x11_2) a0_0) (wrap64 (Int.tdiv (rd x8_2 x11_2) a0_0))).bind fun t363 => ((some (([t360, t361, t362, t363] : List Bool) : List Bool)).bind fun y364 => (if 0 ≤ x14_3 then (if x14_3 < (y364.length : Int) then ((some (([0, 1, 0, (-1)] : List Int) : List Int)).bind fun y368 => (if x14_3 < (y368.length : Int) then ((some (([(-1), 0, 1, 0] : List Int) : List Int)).bind fun y372 => (if x14_3 < (y372.length : Int) then (if rdOf false y364 x14_3 = true then (spec_liRegions.l2 k3 a0_0 a0_1 x5_3 x6_1 x8_3 t357 x10_3 x11_2 (Int.tmod (rd x8_2 x11_2) a0_0) (wrap64 (Int.tdiv (rd x8_2 x11_2) a0_0)) (wrap64 (x14_3 + 1)) (y343.length : Int) x28_1 a0_0 a0_1 l0_2 l0_3) else ((spec_l1In.f (wrap64 ((Int.tmod (rd x8_2 x11_2) a0_0) + (rd y368 x14_3))) 0 (wrap64 (a0_0 - 1))).bind fun t376 => (if t376 = true then ((spec_l1In.f (wrap64 ((wrap64 (Int.tdiv (rd x8_2 x11_2) a0_0)) + (rd y372 x14_3))) 0 (wrap64 (a0_1 - 1))).bind fun t377 => (spec_liRegions.j3 k3 a0_0 a0_1 x5_3 x6_1 x8_3 t357 x10_3 x11_2 (Int.tmod (rd x8_2 x11_2) a0_0) (wrap64 (Int.tdiv (rd x8_2 x11_2) a0_0)) x14_3 (wrap64 ((Int.tmod (rd x8_2 x11_2) a0_0) + (rd y368 x14_3))) (wrap64 ((wrap64 (Int.tdiv (rd x8_2 x11_2) a0_0)) + (rd y372 x14_3))) (y343.length : Int) x28_1 (!t377) a0_0 a0_1 l0_2 l0_3)) else (spec_liRegions.j3 k3 a0_0 a0_1 x5_3 x6_1 x8_3 t357 x10_3 x11_2 (Int.tmod (rd x8_2 x11_2) a0_0) (wrap64 (Int.tdiv (rd x8_2 x11_2) a0_0)) x14_3 (wrap64 ((Int.tmod (rd x8_2 x11_2) a0_0) + (rd y368 x14_3))) (wrap64 ((wrap64 (Int.tdiv (rd x8_2 x11_2) a0_0)) + (rd y372 x14_3))) (y343.length : Int) x28_1 true a0_0 a0_1 l0_2 l0_3)))) else (none))) else (none))) else (none)) else (none)))))) = some r := H
                 have A29 := Aside0.mk A290
                 clear A290
                 replace H := Option.bind_eq_some_iff.mp H
                 obtain ⟨t361, A300, H⟩ := H
                 replace H : ((spec_fiHas.f k3 a0_0 a0_1 l0_2 l0_3 false (Int.tmod (rd x8_2 x11_2) a0_0) (wrap64 ((wrap64 (Int.tdiv (rd x8_2 x11_2) a0_0)) + 1))).bind fun t362 => ((spec_fiHas.f k3 a0_0 a0_1 l0_2 l0_3 true (Int.tmod (rd x8_2 x11_2) a0_0) (wrap64 (Int.tdiv (rd x8_2 x11_2) a0_0))).bind fun t363 => ((some (([t360, t361, t362, t363] : List Bool) : List Bool)).bind fun y364 => (if 0 ≤ x14_3 then (if x14_3 < (y364.length : Int) then ((some (([0, 1, 0, (-1)] : List Int) : List Int)).bind fun y368 => (if x14_3 < (y368.length : Int) then ((some (([(-1), 0, 1, 0] : List Int) : List Int)).bind fun y372 => (if x14_3 < (y372.length : Int) then (if rdOf false y364 x14_3 = true then (spec_liRegions.l2 k3 a0_0 a0_1 x5_3 x6_1 x8_3 t357 x10_3 x11_2 (Int.tmod (rd x8_2 x11_2) a0_0) (wrap64 (Int.tdiv (rd x8_2 x11_2) a0_0)) (wrap64 (x14_3 + 1)) (y343.length : Int) x28_1 a0_0 a0_1 l0_2 l0_3) else ((spec_l1In.f (wrap64 ((Int.tmod (rd x8_2 x11_2) a0_0) + (rd y368 x14_3))) 0 (wrap64 (a0_0 - 1))).bind fun t376 => (if t376 = true then ((spec_l1In.f (wrap64 ((wrap64 (Int.tdiv (rd x8_2 x11_2) a0_0)) + (rd y372 x14_3))) 0 (wrap64 (a0_1 - 1))).bind fun t377 => (spec_liRegions.j3 k3 a0_0 a0_1 x5_3 x6_1 x8_3 t357 x10_3 x11_2 (Int.tmod (rd x8_2 x11_2) a0_0) (wrap64 (Int.tdiv (rd x8_2 x11_2) a0_0)) x14_3 (wrap64 ((Int.tmod (rd x8_2 x11_2) a0_0) + (rd y368 x14_3))) (wrap64 ((wrap64 (Int.tdiv (rd x8_2 x11_2) a0_0)) + (rd y372 x14_3))) (y343.length : Int) x28_1 (!t377) a0_0 a0_1 l0_2 l0_3)) else (spec_liRegions.j3 k3 a0_0 a0_1 x5_3 x6_1 x8_3 t357 x10_3 x11_2 (Int.tmod (rd x8_2 x11_2) a0_0) (wrap64 (Int.tdiv (rd x8_2 x11_2) a0_0)) x14_3 (wrap64 ((Int.tmod (rd x8_2 x11_2) a0_0) + (rd y368 x14_3))) (wrap64 ((wrap64 (Int.tdiv (rd x8_2 x11_2) a0_0)) + (rd y372 x14_3))) (y343.length : Int) x28_1 true a0_0 a0_1 l0_2 l0_3)))) else (none))) else (none))) else (none)) else (none))))) = some r := H
                 have A30 := Aside0.mk A300
                 clear A300
                 replace H := Option.bind_eq_some_iff.mp H
                 obtain ⟨t362, A310, H⟩ := H
                 replace H : ((spec_fiHas.f k3 a0_0 a0_1 l0_2 l0_3 true (Int.tmod (rd x8_2 x11_2) a0_0) (wrap64 (Int.tdiv (rd x8_2 x11_2) a0_0))).bind fun t363 => ((some (([t360, t361, t362, t363] : List Bool) : List Bool)).bind fun y364 => (if 0 ≤ x14_3 then (if x14_3 < (y364.length : Int) then ((some (([0, 1, 0, (-1)] : List Int) : List Int)).bind fun y368 => (if x14_3 < (y368.length : Int) then ((some (([(-1), 0, 1, 0] : List Int) : List Int)).bind fun y372 => (if x14_3 < (y372.length : Int) then (if rdOf false y364 x14_3 = true then (spec_liRegions.l2 k3 a0_0 a0_1 x5_3 x6_1 x8_3 t357 x10_3 x11_2 (Int.tmod (rd x8_2 x11_2) a0_0) (wrap64 (Int.tdiv (rd x8_2 x11_2) a0_0)) (wrap64 (x14_3 + 1)) (y343.length : Int) x28_1 a0_0 a0_1 l0_2 l0_3) else ((spec_l1In.f (wrap64 ((Int.tmod (rd x8_2 x11_2) a0_0) + (rd y368 x14_3))) 0 (wrap64 (a0_0 - 1))).bind fun t376 => (if t376 = true then ((spec_l1In.f (wrap64 ((wrap64 (Int.tdiv (rd x8_2 x11_2) a0_0)) + (rd y372 x14_3))) 0 (wrap64 (a0_1 - 1))).bind fun t377 => (spec_liRegions.j3 k3 a0_0 a0_1 x5_3 x6_1 x8_3 t357 x10_3 x11_2 (Int.tmod (rd x8_2 x11_2) a0_0) (wrap64 (Int.tdiv (rd x8_2 x11_2) a0_0)) x14_3 (wrap64 ((Int.tmod (rd x8_2 x11_2) a0_0) + (rd y368 x14_3))) (wrap64 ((wrap64 (Int.tdiv (rd x8_2 x11_2) a0_0)) + (rd y372 x14_3))) (y343.length : Int) x28_1 (!t377) a0_0 a0_1 l0_2 l0_3)) else (spec_liRegions.j3 k3 a0_0 a0_1 x5_3 x6_1 x8_3 t357 x10_3 x11_2 (Int.tmod (rd x8_2 x11_2) a0_0) (wrap64 (Int.tdiv (rd x8_2 x11_2) a0_0)) x14_3 (wrap64 ((Int.tmod (rd x8_2 x11_2) a0_0) + (rd y368 x14_3))) (wrap64 ((wrap64 (Int.tdiv (rd x8_2 x11_2) a0_0)) + (rd y372 x14_3))) (y343.length : Int) x28_1 true a0_0 a0_1 l0_2 l0_3)))) else (none))) else (none))) else (none)) else (none)))) = some r := H
                 have A31 := Aside0.mk A310
                 clear A310
                 replace H := Option.bind_eq_some_iff.mp H
                 obtain ⟨t363, A320, H⟩ := H
                 replace H : ((some (([t360, t361, t362, t363] : List Bool) : List Bool)).bind fun y364 => (if 0 ≤ x14_3 then (if x14_3 < (y364.length : Int) then ((some (([0, 1, 0, (-1)] : List Int) : List Int)).bind fun y368 => (if x14_3 < (y368.length : Int) then ((some (([(-1), 0, 1, 0] : List Int) : List Int)).bind fun y372 => (if x14_3 < (y372.length : Int) then (if rdOf false y364 x14_3 = true then (spec_liRegions.l2 k3 a0_0 a0_1 x5_3 x6_1 x8_3 t357 x10_3 x11_2 (Int.tmod (rd x8_2 x11_2) a0_0) (wrap64 (Int.tdiv (rd x8_2 x11_2) a0_0)) (wrap64 (x14_3 + 1)) (y343.length : Int) x28_1 a0_0 a0_1 l0_2 l0_3) else ((spec_l1In.f (wrap64 ((Int.tmod (rd x8_2 x11_2) a0_0) + (rd y368 x14_3))) 0 (wrap64 (a0_0 - 1))).bind fun t376 => (if t376 = true then ((spec_l1In.f (wrap64 ((wrap64 (Int.tdiv (rd x8_2 x11_2) a0_0)) + (rd y372 x14_3))) 0 (wrap64 (a0_1 - 1))).bind fun t377 => (spec_liRegions.j3 k3 a0_0 a0_1 x5_3 x6_1 x8_3 t357 x10_3 x11_2 (Int.tmod (rd x8_2 x11_2) a0_0) (wrap64 (Int.tdiv (rd x8_2 x11_2) a0_0)) x14_3 (wrap64 ((Int.tmod (rd x8_2 x11_2) a0_0) + (rd y368 x14_3))) (wrap64 ((wrap64 (Int.tdiv (rd x8_2 x11_2) a0_0)) + (rd y372 x14_3))) (y343.length : Int) x28_1 (!t377) a0_0 a0_1 l0_2 l0_3)) else (spec_liRegions.j3 k3 a0_0 a0_1 x5_3 x6_1 x8_3 t357 x10_3 x11_2 (Int.tmod (rd x8_2 x11_2) a0_0) (wrap64 (Int.tdiv (rd x8_2 x11_2) a0_0)) x14_3 (wrap64 ((Int.tmod (rd x8_2 x11_2) a0_0) + (rd y368 x14_3))) (wrap64 ((wrap64 (Int.tdiv (rd x8_2 x11_2) a0_0)) + (rd y372 x14_3))) (y343.length : Int) x28_1 true a0_0 a0_1 l0_2 l0_3)))) else (none))) else (none))) else (none)) else (none))) = some r := H
                 have A32 := Aside0.mk A320
                 clear A320
                 obtain ⟨y364, hy364⟩ : ∃ y_ : List Bool, y_ = (([t360, t361, t362, t363] : List Bool)) := ⟨_, rfl⟩
                 replace H : (if 0 ≤ x14_3 then (if x14_3 < (y364.length : Int) then ((some (([0, 1, 0, (-1)] : List Int) : List Int)).bind fun y368 => (if x14_3 < (y368.length : Int) then ((some (([(-1), 0, 1, 0] : List Int) : List Int)).bind fun y372 => (if x14_3 < (y372.length : Int) then (if rdOf false y364 x14_3 = true then (spec_liRegions.l2 k3 a0_0 a0_1 x5_3 x6_1 x8_3 t357 x10_3 x11_2 (Int.tmod (rd x8_2 x11_2) a0_0) (wrap64 (Int.tdiv (rd x8_2 x11_2) a0_0)) (wrap64 (x14_3 + 1)) (y343.length : Int) x28_1 a0_0 a0_1 l0_2 l0_3) else ((spec_l1In.f (wrap64 ((Int.tmod (rd x8_2 x11_2) a0_0) + (rd y368 x14_3))) 0 (wrap64 (a0_0 - 1))).bind fun t376 => (if t376 = true then ((spec_l1In.f (wrap64 ((wrap64 (Int.tdiv (rd x8_2 x11_2) a0_0)) + (rd y372 x14_3))) 0 (wrap64 (a0_1 - 1))).bind fun t377 => (spec_liRegions.j3 k3 a0_0 a0_1 x5_3 x6_1 x8_3 t357 x10_3 x11_2 (Int.tmod (rd x8_2 x11_2) a0_0) (wrap64 (Int.tdiv (rd x8_2 x11_2) a0_0)) x14_3 (wrap64 ((Int.tmod (rd x8_2 x11_2) a0_0) + (rd y368 x14_3))) (wrap64 ((wrap64 (Int.tdiv (rd x8_2 x11_2) a0_0)) + (rd y372 x14_3))) (y343.length : Int) x28_1 (!t377) a0_0 a0_1 l0_2 l0_3)) else (spec_liRegions.j3 k3 a0_0 a0_1 x5_3 x6_1 x8_3 t357 x10_3 x11_2 (Int.tmod (rd x8_2 x11_2) a0_0) (wrap64 (Int.tdiv (rd x8_2 x11_2) a0_0)) x14_3 (wrap64 ((Int.tmod (rd x8_2 x11_2) a0_0) + (rd y368 x14_3))) (wrap64 ((wrap64 (Int.tdiv (rd x8_2 x11_2) a0_0)) + (rd y372 x14_3))) (y343.length : Int) x28_1 true a0_0 a0_1 l0_2 l0_3)))) else (none))) else (none))) else (none)) else (none)) = some r := by first | (rw [hy364]; with_reducible exact H) | (have H2_ := (Option.bind_some _ _).symm.trans H; rw [hy364]; with_reducible exact H2_) | (have H2_ := (Option.bind_some _ _).symm.trans H; with_reducible exact H2_) | with_reducible exact H | (rw [hy364]; exact H) | exact H
                 have Ny364 := Aside0.mk hy364
                 clear hy364
                 by_cases c33 : 0 ≤ x14_3
                 ·rw [if_pos c33] at H
                  have c33b0 : decide (0 ≤ x14_3) = true := decide_eq_true c33
                  clear c33
                  by_cases c34 : x14_3 < (y364.length : Int)
                  ·rw [if_pos c34] at H
                   have c34b0 : decide (x14_3 < (y364.length : Int)) = true := decide_eq_true c34
                   clear c34
                   obtain ⟨y368, hy368⟩ : ∃ y_ : List Int, y_ = (([0, 1, 0, (-1)] : List Int)) := ⟨_, rfl⟩
                   replace H : (if x14_3 < (y368.length : Int) then ((some (([(-1), 0, 1, 0] : List Int) : List Int)).bind fun y372 => (if x14_3 < (y372.length : Int) then (if rdOf false y364 x14_3 = true then (spec_liRegions.l2 k3 a0_0 a0_1 x5_3 x6_1 x8_3 t357 x10_3 x11_2 (Int.tmod (rd x8_2 x11_2) a0_0) (wrap64 (Int.tdiv (rd x8_2 x11_2) a0_0)) (wrap64 (x14_3 + 1)) (y343.length : Int) x28_1 a0_0 a0_1 l0_2 l0_3) else ((spec_l1In.f (wrap64 ((Int.tmod (rd x8_2 x11_2) a0_0) + (rd y368 x14_3))) 0 (wrap64 (a0_0 - 1))).bind fun t376 => (if t376 = true then ((spec_l1In.f (wrap64 ((wrap64 (Int.tdiv (rd x8_2 x11_2) a0_0)) + (rd y372 x14_3))) 0 (wrap64 (a0_1 - 1))).bind fun t377 => (spec_liRegions.j3 k3 a0_0 a0_1 x5_3 x6_1 x8_3 t357 x10_3 x11_2 (Int.tmod (rd x8_2 x11_2) a0_0) (wrap64 (Int.tdiv (rd x8_2 x11_2) a0_0)) x14_3 (wrap64 ((Int.tmod (rd x8_2 x11_2) a0_0) + (rd y368 x14_3))) (wrap64 ((wrap64 (Int.tdiv (rd x8_2 x11_2) a0_0)) + (rd y372 x14_3))) (y343.length : Int) x28_1 (!t377) a0_0 a0_1 l0_2 l0_3)) else (spec_liRegions.j3 k3 a0_0 a0_1 x5_3 x6_1 x8_3 t357 x10_3 x11_2 (Int.tmod (rd x8_2 x11_2) a0_0) (wrap64 (Int.tdiv (rd x8_2 x11_2) a0_0)) x14_3 (wrap64 ((Int.tmod (rd x8_2 x11_2) a0_0) + (rd y368 x14_3))) (wrap64 ((wrap64 (Int.tdiv (rd x8_2 x11_2) a0_0)) + (rd y372 x14_3))) (y343.length : Int) x28_1 true a0_0 a0_1 l0_2 l0_3)))) else (none))) else (none)) = some r := by first | (rw [hy368]; with_reducible exact H) | (have H2_ := (Option.bind_some _ _).symm.trans H; rw [hy368]; with_reducible exact H2_) | (have H2_ := (Option.bind_some _ _).symm.trans H; with_reducible exact H2_) | with_reducible exact H | (rw [hy368]; exact H) | exact H
                   have Ny368 := Aside0.mk hy368
                   clear hy368
                   by_cases c35 : x14_3 < (y368.length : Int)
                   ·rw [if_pos c35] at H
                    have c35b0 : decide (x14_3 < (y368.length : Int)) = true := decide_eq_true c35
                    clear c35
                    obtain ⟨y372, hy372⟩ : ∃ y_ : List Int, y_ = (([(-1), 0, 1, 0] : List Int)) := ⟨_, rfl⟩
                    replace H : (if x14_3 < (y372.length : Int) then (if rdOf false y364 x14_3 = true then (spec_liRegions.l2 k3 a0_0 a0_1 x5_3 x6_1 x8_3 t357 x10_3 x11_2 (Int.tmod (rd x8_2 x11_2) a0_0) (wrap64 (Int.tdiv (rd x8_2 x11_2) a0_0)) (wrap64 (x14_3 + 1)) (y343.length : Int) x28_1 a0_0 a0_1 l0_2 l0_3) else ((spec_l1In.f (wrap64 ((Int.tmod (rd x8_2 x11_2) a0_0) + (rd y368 x14_3))) 0 (wrap64 (a0_0 - 1))).bind fun t376 => (if t376 = true then ((spec_l1In.f (wrap64 ((wrap64 (Int.tdiv (rd x8_2 x11_2) a0_0)) + (rd y372 x14_3))) 0 (wrap64 (a0_1 - 1))).bind fun t377 => (spec_liRegions.j3 k3 a0_0 a0_1 x5_3 x6_1 x8_3 t357 x10_3 x11_2 (Int.tmod (rd x8_2 x11_2) a0_0) (wrap64 (Int.tdiv (rd x8_2 x11_2) a0_0)) x14_3 (wrap64 ((Int.tmod (rd x8_2 x11_2) a0_0) + (rd y368 x14_3))) (wrap64 ((wrap64 (Int.tdiv (rd x8_2 x11_2) a0_0)) + (rd y372 x14_3))) (y343.length : Int) x28_1 (!t377) a0_0 a0_1 l0_2 l0_3)) else (spec_liRegions.j3 k3 a0_0 a0_1 x5_3 x6_1 x8_3 t357 x10_3 x11_2 (Int.tmod (rd x8_2 x11_2) a0_0) (wrap64 (Int.tdiv (rd x8_2 x11_2) a0_0)) x14_3 (wrap64 ((Int.tmod (rd x8_2 x11_2) a0_0) + (rd y368 x14_3))) (wrap64 ((wrap64 (Int.tdiv (rd x8_2 x11_2) a0_0)) + (rd y372 x14_3))) (y343.length : Int) x28_1 true a0_0 a0_1 l0_2 l0_3)))) else (none)) = some r := by first | (rw [hy372]; with_reducible exact H) | (have H2_ := (Option.bind_some _ _).symm.trans H; rw [hy372]; with_reducible exact H2_) | (have H2_ := (Option.bind_some _ _).symm.trans H; with_reducible exact H2_) | with_reducible exact H | (rw [hy372]; exact H) | exact H
                    have Ny372 := Aside0.mk hy372
                    clear hy372
                    by_cases c36 : x14_3 < (y372.length : Int)
                    ·rw [if_pos c36] at H
                     have c36b0 : decide (x14_3 < (y372.length : Int)) = true := decide_eq_true c36
                     clear c36
                     obtain ⟨bq37, hbq37⟩ : ∃ b_ : Bool, b_ = (rdOf false y364 x14_3) := ⟨_, rfl⟩
                     replace H : (if bq37 = true then (spec_liRegions.l2 k3 a0_0 a0_1 x5_3 x6_1 x8_3 t357 x10_3 x11_2 (Int.tmod (rd x8_2 x11_2) a0_0) (wrap64 (Int.tdiv (rd x8_2 x11_2) a0_0)) (wrap64 (x14_3 + 1)) (y343.length : Int) x28_1 a0_0 a0_1 l0_2 l0_3) else ((spec_l1In.f (wrap64 ((Int.tmod (rd x8_2 x11_2) a0_0) + (rd y368 x14_3))) 0 (wrap64 (a0_0 - 1))).bind fun t376 => (if t376 = true then ((spec_l1In.f (wrap64 ((wrap64 (Int.tdiv (rd x8_2 x11_2) a0_0)) + (rd y372 x14_3))) 0 (wrap64 (a0_1 - 1))).bind fun t377 => (spec_liRegions.j3 k3 a0_0 a0_1 x5_3 x6_1 x8_3 t357 x10_3 x11_2 (Int.tmod (rd x8_2 x11_2) a0_0) (wrap64 (Int.tdiv (rd x8_2 x11_2) a0_0)) x14_3 (wrap64 ((Int.tmod (rd x8_2 x11_2) a0_0) + (rd y368 x14_3))) (wrap64 ((wrap64 (Int.tdiv (rd x8_2 x11_2) a0_0)) + (rd y372 x14_3))) (y343.length : Int) x28_1 (!t377) a0_0 a0_1 l0_2 l0_3)) else (spec_liRegions.j3 k3 a0_0 a0_1 x5_3 x6_1 x8_3 t357 x10_3 x11_2 (Int.tmod (rd x8_2 x11_2) a0_0) (wrap64 (Int.tdiv (rd x8_2 x11_2) a0_0)) x14_3 (wrap64 ((Int.tmod (rd x8_2 x11_2) a0_0) + (rd y368 x14_3))) (wrap64 ((wrap64 (Int.tdiv (rd x8_2 x11_2) a0_0)) + (rd y372 x14_3))) (y343.length : Int) x28_1 true a0_0 a0_1 l0_2 l0_3)))) = some r := by rw [← hbq37] at H; exact H
                     have Nbq37 := Aside0.mk hbq37
                     clear hbq37
                     by_cases c38 : bq37 = true
                     ·subst c38
                      have H1 : (spec_liRegions.l2 k3 a0_0 a0_1 x5_3 x6_1 x8_3 t357 x10_3 x11_2 (Int.tmod (rd x8_2 x11_2) a0_0) (wrap64 (Int.tdiv (rd x8_2 x11_2) a0_0)) (wrap64 (x14_3 + 1)) (y343.length : Int) x28_1 a0_0 a0_1 l0_2 l0_3) = some r := by rw [if_pos rfl] at H; exact H
                      clear H
                      have H := H1
                      clear H1
                      have H' := Aside0.mk H
                      clear H
                      try go_wp2
                      have pi367 : (0 ≤ (x14_3 : Int)) = True := eq_true (of_decide_eq_true as_)
                      have qi367 : (x14_3 < (y364.length : Int)) = True := eq_true (of_decide_eq_true as_)
                      have n0_ := Aside0.mk (Kd.R_drew HO_5.out)
                      have n1_ := Aside0.mk (Kd.S_drew HO_6.out)
                      have n2_ := Aside0.mk (Kd.R_drew HO_8.out)
                      have n3_ := Aside0.mk (Kd.R_drew HO_9.out)
                      have n4_ := Aside0.mk (blk_drew BK342.out)
                      have n5_ := Aside0.mk (below_drew1 HB.out)
                      clear HO_5
                      clear HO_6
                      clear HO_8
                      clear HO_9
                      clear BK342
                      clear HB
                      have HO_5 := n0_
                      have HO_6 := n1_
                      have HO_8 := n2_
                      have HO_9 := n3_
                      have BK342 := n4_
                      have HB := n5_
                      clear n0_ n1_ n2_ n3_ n4_ n5_
                      refine start_ (n := 23) (S := fun w' => w'.cell? ⟨gb342, 0, none⟩ = some (.int .i64 a0_0) ∧ w'.cell? ⟨gb342, 1, none⟩ = some (.int .i64 a0_1) ∧ w'.cell? ⟨gb342, 2, none⟩ = some (.slice A0_2 l0_2.length c0_2) ∧ w'.cell? ⟨gb342, 3, none⟩ = some (.slice A0_3 l0_3.length c0_3)) (ds := []) #[Ff, Ff, Ff, Ff, Ff, Ff, Ff, Ff, Ff, Ff, Ff, Ff, Ff, Ff, Ff, Ff, Ff, Ff, Ff, Ff, Ff, Ff, Ff] (by kernel_rfl) rfl rfl ⟨(blk_cell BK342.out 0).trans rfl, (blk_cell BK342.out 1).trans rfl, (blk_cell BK342.out 2).trans rfl, (blk_cell BK342.out 3).trans rfl⟩ (fun hHeld => ?_); refine with_tabW spec_liRegions.tab20 spec_liRegions.bits20 (fun HT_ HW_ => ?_)
                      generalize wr.drew = w39 at HO_5 HO_6 HO_8 HO_9 BK342 HB hHeld ⊢
                      refine pZ (i := 1) (N := some 69) #[Ff, Tt, Ff, Ff, Ff, Ff, Ff, Ff, Ff, Ff, Ff, Ff, Ff, Ff, Ff, Ff, Ff, Ff, Ff, Ff, Ff, Ff, Ff] ?_
                      refine pZ (i := 2) (N := some 70) #[Ff, Tt, Tt, Ff, Ff, Ff, Ff, Ff, Ff, Ff, Ff, Ff, Ff, Ff, Ff, Ff, Ff, Ff, Ff, Ff, Ff, Ff, Ff] ?_
                      refine pZ (i := 5) (N := some 73) #[Ff, Tt, Tt, Ff, Ff, Tt, Ff, Ff, Ff, Ff, Ff, Ff, Ff, Ff, Ff, Ff, Ff, Ff, Ff, Ff, Ff, Ff, Ff] ?_
                      refine pZ (i := 6) (N := some 74) #[Ff, Tt, Tt, Ff, Ff, Tt, Tt, Ff, Ff, Ff, Ff, Ff, Ff, Ff, Ff, Ff, Ff, Ff, Ff, Ff, Ff, Ff, Ff] ?_
                      refine pZ (i := 7) (N := some 75) #[Ff, Tt, Tt, Ff, Ff, Tt, Tt, Tt, Ff, Ff, Ff, Ff, Ff, Ff, Ff, Ff, Ff, Ff, Ff, Ff, Ff, Ff, Ff] ?_
                      refine pZ (i := 10) (N := some 78) #[Ff, Tt, Tt, Ff, Ff, Tt, Tt, Tt, Ff, Ff, Tt, Ff, Ff, Ff, Ff, Ff, Ff, Ff, Ff, Ff, Ff, Ff, Ff] ?_
                      refine pZ (i := 11) (N := some 79) #[Ff, Tt, Tt, Ff, Ff, Tt, Tt, Tt, Ff, Ff, Tt, Tt, Ff, Ff, Ff, Ff, Ff, Ff, Ff, Ff, Ff, Ff, Ff] ?_
                      refine pZ (i := 12) (N := some 80) #[Ff, Tt, Tt, Ff, Ff, Tt, Tt, Tt, Ff, Ff, Tt, Tt, Tt, Ff, Ff, Ff, Ff, Ff, Ff, Ff, Ff, Ff, Ff] ?_
                      refine pZ (i := 15) (N := some 83) #[Ff, Tt, Tt, Ff, Ff, Tt, Tt, Tt, Ff, Ff, Tt, Tt, Tt, Ff, Ff, Tt, Ff, Ff, Ff, Ff, Ff, Ff, Ff] ?_
                      refine pZ (i := 16) (N := some 84) #[Ff, Tt, Tt, Ff, Ff, Tt, Tt, Tt, Ff, Ff, Tt, Tt, Tt, Ff, Ff, Tt, Tt, Ff, Ff, Ff, Ff, Ff, Ff] ?_
                      refine pZ (i := 19) (N := some 87) #[Ff, Tt, Tt, Ff, Ff, Tt, Tt, Tt, Ff, Ff, Tt, Tt, Tt, Ff, Ff, Tt, Tt, Ff, Ff, Tt, Ff, Ff, Ff] ?_
                      refine tZ (i := 0) (N := some 68) #[Tt, Tt, Tt, Ff, Ff, Tt, Tt, Tt, Ff, Ff, Tt, Tt, Tt, Ff, Ff, Tt, Tt, Ff, Ff, Tt, Ff, Ff, Ff] ?_
                      refine tZ (i := 4) (N := some 72) #[Tt, Tt, Tt, Ff, Tt, Tt, Tt, Tt, Ff, Ff, Tt, Tt, Tt, Ff, Ff, Tt, Tt, Ff, Ff, Tt, Ff, Ff, Ff] ?_
                      refine tZ (i := 9) (N := some 77) #[Tt, Tt, Tt, Ff, Tt, Tt, Tt, Tt, Ff, Tt, Tt, Tt, Tt, Ff, Ff, Tt, Tt, Ff, Ff, Tt, Ff, Ff, Ff] ?_
                      refine tZ (i := 14) (N := some 82) #[Tt, Tt, Tt, Ff, Tt, Tt, Tt, Tt, Ff, Tt, Tt, Tt, Tt, Ff, Tt, Tt, Tt, Ff, Ff, Tt, Ff, Ff, Ff] ?_
                      refine one_ (i := 3) (N := some 71) #[Tt, Tt, Tt, Tt, Tt, Tt, Tt, Tt, Ff, Tt, Tt, Tt, Tt, Ff, Tt, Tt, Tt, Ff, Ff, Tt, Ff, Ff, Ff] rfl rfl (one_of HT_.out (by kernel_rfl)) (by decide) (fun K hK => ?_)
                      refine goes_ Try.func78 (by kernel_rfl) rfl #[.agg #[.int .i64 a0_0, .int .i64 a0_1, .slice A0_2 l0_2.length c0_2, .slice A0_3 l0_3.length c0_3], .bool false, .int .i64 (Int.tmod (rd x8_2 x11_2) a0_0), .int .i64 (wrap64 (Int.tdiv (rd x8_2 x11_2) a0_0))] (by rfl) rfl rfl ob_ ?_
                      with_reducible refine (spec_fiHas.calls k3 a0_0 a0_1 _ _ l0_2 _ _ l0_3 false (Int.tmod (rd x8_2 x11_2) a0_0) (wrap64 (Int.tdiv (rd x8_2 x11_2) a0_0)) t360 _ ?side1 ?side2 ?side3 ?side4 A29.out).mono ?_
                      (case side1 => exact kc_ (Kd.C_below HR0_2.out HB.out))
                      (case side2 => exact HC0_2.out)
                      (case side3 => exact kc_ (Kd.C_below HR0_3.out HB.out))
                      (case side4 => exact HC0_3.out)
                      rintro e w40 ⟨rfl, hb⟩
                      refine ⟨_, rfl, ?_⟩
                      have n0_ := Aside0.mk (Kd.R_below (kr_ HO_5.out) hb)
                      have n1_ := Aside0.mk (Kd.S_below (by (with_reducible repeat (first | apply Kd.S_alloc | apply Kd.S_drewN | apply Kd.S_drew)); exact HO_6.out) hb)
                      have n2_ := Aside0.mk (Kd.R_below (kr_ HO_8.out) hb)
                      have n3_ := Aside0.mk (Kd.R_below (kr_ HO_9.out) hb)
                      have n4_ := Aside0.mk (bb_ BK342.out hb)
                      have n5_ := Aside0.mk (below_step (bl1_ HB.out GE342.out) hb)
                      clear HO_5
                      clear HO_6
                      clear HO_8
                      clear HO_9
                      clear BK342
                      clear HB
                      have HO_5 := n0_
                      have HO_6 := n1_
                      have HO_8 := n2_
                      have HO_9 := n3_
                      have BK342 := n4_
                      have HB := n5_
                      clear n0_ n1_ n2_ n3_ n4_ n5_
                      (try clear hb)
                      (try clear hb2)
                      (try clear hk)
                      (try clear hi)
                      refine hK.out _ _ ⟨(blk_cell BK342.out 0).trans rfl, (blk_cell BK342.out 1).trans rfl, (blk_cell BK342.out 2).trans rfl, (blk_cell BK342.out 3).trans rfl⟩ (fun hHeld => ?_)
                      clear hK K
                      refine norm_ (a' := _) ap_ ?_
                      refine one_ (i := 8) (N := some 76) #[Tt, Tt, Tt, Tt, Tt, Tt, Tt, Tt, Tt, Tt, Tt, Tt, Tt, Ff, Tt, Tt, Tt, Ff, Ff, Tt, Ff, Ff, Ff] rfl rfl (one_of HT_.out (by kernel_rfl)) (by decide) (fun K hK => ?_)
                      refine goes_ Try.func78 (by kernel_rfl) rfl #[.agg #[.int .i64 a0_0, .int .i64 a0_1, .slice A0_2 l0_2.length c0_2, .slice A0_3 l0_3.length c0_3], .bool true, .int .i64 (wrap64 ((Int.tmod (rd x8_2 x11_2) a0_0) + 1)), .int .i64 (wrap64 (Int.tdiv (rd x8_2 x11_2) a0_0))] (by rfl) rfl rfl ob_ ?_
                      with_reducible refine (spec_fiHas.calls k3 a0_0 a0_1 _ _ l0_2 _ _ l0_3 true (wrap64 ((Int.tmod (rd x8_2 x11_2) a0_0) + 1)) (wrap64 (Int.tdiv (rd x8_2 x11_2) a0_0)) t361 _ ?side1 ?side2 ?side3 ?side4 A30.out).mono ?_
                      (case side1 => exact kc_ (Kd.C_below HR0_2.out HB.out))
                      (case side2 => exact HC0_2.out)
                      (case side3 => exact kc_ (Kd.C_below HR0_3.out HB.out))
                      (case side4 => exact HC0_3.out)
                      rintro e w41 ⟨rfl, hb⟩
                      refine ⟨_, rfl, ?_⟩
                      have n0_ := Aside0.mk (Kd.R_below (kr_ HO_5.out) hb)
                      have n1_ := Aside0.mk (Kd.S_below (by (with_reducible repeat (first | apply Kd.S_alloc | apply Kd.S_drewN | apply Kd.S_drew)); exact HO_6.out) hb)
                      have n2_ := Aside0.mk (Kd.R_below (kr_ HO_8.out) hb)
                      have n3_ := Aside0.mk (Kd.R_below (kr_ HO_9.out) hb)
                      have n4_ := Aside0.mk (bb_ BK342.out hb)
                      have n5_ := Aside0.mk (below_step (bl1_ HB.out GE342.out) hb)
                      clear HO_5
                      clear HO_6
                      clear HO_8
                      clear HO_9
                      clear BK342
                      clear HB
                      have HO_5 := n0_
                      have HO_6 := n1_
                      have HO_8 := n2_
                      have HO_9 := n3_
                      have BK342 := n4_
                      have HB := n5_
                      clear n0_ n1_ n2_ n3_ n4_ n5_
                      (try clear hb)
                      (try clear hb2)
                      (try clear hk)
                      (try clear hi)
                      refine hK.out _ _ ⟨(blk_cell BK342.out 0).trans rfl, (blk_cell BK342.out 1).trans rfl, (blk_cell BK342.out 2).trans rfl, (blk_cell BK342.out 3).trans rfl⟩ (fun hHeld => ?_)
                      clear hK K
                      refine norm_ (a' := _) ap_ ?_
                      refine one_ (i := 13) (N := some 81) #[Tt, Tt, Tt, Tt, Tt, Tt, Tt, Tt, Tt, Tt, Tt, Tt, Tt, Tt, Tt, Tt, Tt, Ff, Ff, Tt, Ff, Ff, Ff] rfl rfl (one_of HT_.out (by kernel_rfl)) (by decide) (fun K hK => ?_)
                      refine goes_ Try.func78 (by kernel_rfl) rfl #[.agg #[.int .i64 a0_0, .int .i64 a0_1, .slice A0_2 l0_2.length c0_2, .slice A0_3 l0_3.length c0_3], .bool false, .int .i64 (Int.tmod (rd x8_2 x11_2) a0_0), .int .i64 (wrap64 ((wrap64 (Int.tdiv (rd x8_2 x11_2) a0_0)) + 1))] (by rfl) rfl rfl ob_ ?_
                      with_reducible refine (spec_fiHas.calls k3 a0_0 a0_1 _ _ l0_2 _ _ l0_3 false (Int.tmod (rd x8_2 x11_2) a0_0) (wrap64 ((wrap64 (Int.tdiv (rd x8_2 x11_2) a0_0)) + 1)) t362 _ ?side1 ?side2 ?side3 ?side4 A31.out).mono ?_
                      (case side1 => exact kc_ (Kd.C_below HR0_2.out HB.out))
                      (case side2 => exact HC0_2.out)
                      (case side3 => exact kc_ (Kd.C_below HR0_3.out HB.out))
                      (case side4 => exact HC0_3.out)
                      rintro e w42 ⟨rfl, hb⟩
                      refine ⟨_, rfl, ?_⟩
                      have n0_ := Aside0.mk (Kd.R_below (kr_ HO_5.out) hb)
                      have n1_ := Aside0.mk (Kd.S_below (by (with_reducible repeat (first | apply Kd.S_alloc | apply Kd.S_drewN | apply Kd.S_drew)); exact HO_6.out) hb)
                      have n2_ := Aside0.mk (Kd.R_below (kr_ HO_8.out) hb)
                      have n3_ := Aside0.mk (Kd.R_below (kr_ HO_9.out) hb)
                      have n4_ := Aside0.mk (bb_ BK342.out hb)
                      have n5_ := Aside0.mk (below_step (bl1_ HB.out GE342.out) hb)
                      clear HO_5
                      clear HO_6
                      clear HO_8
                      clear HO_9
                      clear BK342
                      clear HB
                      have HO_5 := n0_
                      have HO_6 := n1_
                      have HO_8 := n2_
                      have HO_9 := n3_
                      have BK342 := n4_
                      have HB := n5_
                      clear n0_ n1_ n2_ n3_ n4_ n5_
                      (try clear hb)
                      (try clear hb2)
                      (try clear hk)
                      (try clear hi)
                      refine hK.out _ _ ⟨(blk_cell BK342.out 0).trans rfl, (blk_cell BK342.out 1).trans rfl, (blk_cell BK342.out 2).trans rfl, (blk_cell BK342.out 3).trans rfl⟩ (fun hHeld => ?_)
                      clear hK K
                      refine norm_ (a' := _) ap_ ?_
                      refine one_ (i := 17) (N := some 85) #[Tt, Tt, Tt, Tt, Tt, Tt, Tt, Tt, Tt, Tt, Tt, Tt, Tt, Tt, Tt, Tt, Tt, Tt, Ff, Tt, Ff, Ff, Ff] rfl rfl (one_of HT_.out (by kernel_rfl)) (by decide) (fun K hK => ?_)
                      refine goes_ Try.func78 (by kernel_rfl) rfl #[.agg #[.int .i64 a0_0, .int .i64 a0_1, .slice A0_2 l0_2.length c0_2, .slice A0_3 l0_3.length c0_3], .bool true, .int .i64 (Int.tmod (rd x8_2 x11_2) a0_0), .int .i64 (wrap64 (Int.tdiv (rd x8_2 x11_2) a0_0))] (by rfl) rfl rfl ob_ ?_
                      with_reducible refine (spec_fiHas.calls k3 a0_0 a0_1 _ _ l0_2 _ _ l0_3 true (Int.tmod (rd x8_2 x11_2) a0_0) (wrap64 (Int.tdiv (rd x8_2 x11_2) a0_0)) t363 _ ?side1 ?side2 ?side3 ?side4 A32.out).mono ?_
                      (case side1 => exact kc_ (Kd.C_below HR0_2.out HB.out))
                      (case side2 => exact HC0_2.out)
                      (case side3 => exact kc_ (Kd.C_below HR0_3.out HB.out))
                      (case side4 => exact HC0_3.out)
                      rintro e w43 ⟨rfl, hb⟩
                      refine ⟨_, rfl, ?_⟩
                      have n0_ := Aside0.mk (Kd.R_below (kr_ HO_5.out) hb)
                      have n1_ := Aside0.mk (Kd.S_below (by (with_reducible repeat (first | apply Kd.S_alloc | apply Kd.S_drewN | apply Kd.S_drew)); exact HO_6.out) hb)
                      have n2_ := Aside0.mk (Kd.R_below (kr_ HO_8.out) hb)
                      have n3_ := Aside0.mk (Kd.R_below (kr_ HO_9.out) hb)
                      have n4_ := Aside0.mk (bb_ BK342.out hb)
                      have n5_ := Aside0.mk (below_step (bl1_ HB.out GE342.out) hb)
                      clear HO_5
                      clear HO_6
                      clear HO_8
                      clear HO_9
                      clear BK342
                      clear HB
                      have HO_5 := n0_
                      have HO_6 := n1_
                      have HO_8 := n2_
                      have HO_9 := n3_
                      have BK342 := n4_
                      have HB := n5_
                      clear n0_ n1_ n2_ n3_ n4_ n5_
                      (try clear hb)
                      (try clear hb2)
                      (try clear hk)
                      (try clear hi)
                      refine hK.out _ _ ⟨(blk_cell BK342.out 0).trans rfl, (blk_cell BK342.out 1).trans rfl, (blk_cell BK342.out 2).trans rfl, (blk_cell BK342.out 3).trans rfl⟩ (fun hHeld => ?_)
                      clear hK K
                      refine norm_ (a' := _) ap_ ?_
                      refine one_ (i := 18) (N := some 86) #[Tt, Tt, Tt, Tt, Tt, Tt, Tt, Tt, Tt, Tt, Tt, Tt, Tt, Tt, Tt, Tt, Tt, Tt, Tt, Tt, Ff, Ff, Ff] rfl rfl (one_of HT_.out (by kernel_rfl)) (by decide) (fun K hK => ?_)
                      refine Kd.R_lit_step Kd.bool _ 4 ?hg (N := 86) ?hd (xs := ([t360, t361, t362, t363] : List Bool)) (inner := [.bool t360, .bool t361, .bool t362, .bool t363]) (ok := fun _ => True) (okp := fun _ => True) ?hr ?hp (fun _ hk => hk) trivial (Below.refl _ _) (Nat.le_refl _) (by simp) ?_; (case hd => rfl); (case hg => rfl); (case hr => first | (go_simp; done) | (go_simp; rfl)); (case hp => exact (Reps.one (show Kd.M Kd.bool _ _ _ t360 [.bool t360] from rfl) (Reps.one (show Kd.M Kd.bool _ _ _ t361 [.bool t361] from rfl) (Reps.one (show Kd.M Kd.bool _ _ _ t362 [.bool t362] from rfl) (Reps.one (show Kd.M Kd.bool _ _ _ t363 [.bool t363] from rfl) (Reps.none _ _))))))
                      intro v365 w44 ho45 hb hg_ hnew_
                      clear hg_ hnew_
                      (first | rw [← Ny364.out] at ho45 | (simp only [Int.reduceToNat] at ho45; rw [← Ny364.out] at ho45))
                      have n0_ := Aside0.mk (Kd.R_elder' (kr_ HO_5.out) (Kd.R_base ho45) hb)
                      have n1_ := Aside0.mk (Kd.S_below (by (with_reducible repeat (first | apply Kd.S_alloc | apply Kd.S_drewN | apply Kd.S_drew)); exact HO_6.out) hb)
                      have n2_ := Aside0.mk (Kd.R_below (kr_ HO_8.out) hb)
                      have n3_ := Aside0.mk (Kd.R_below (kr_ HO_9.out) hb)
                      have n4_ := Aside0.mk (Kd.R_lower (Kd.R_new' ho45 (Kd.R_lt (kr_ HO_5.out))) (below_size (bl1_ HB.out GE342.out)))
                      have n5_ := Aside0.mk (bb_ BK342.out hb)
                      have n6_ := Aside0.mk (below_step (bl1_ HB.out GE342.out) hb)
                      clear HO_5
                      clear HO_6
                      clear HO_8
                      clear HO_9
                      clear BK342
                      clear HB
                      have HO_5 := n0_
                      have HO_6 := n1_
                      have HO_8 := n2_
                      have HO_9 := n3_
                      have HO366 := n4_
                      have BK342 := n5_
                      have HB := n6_
                      clear n0_ n1_ n2_ n3_ n4_ n5_ n6_
                      clear hb ho45
                      obtain ⟨Ao46, co46, eo46⟩ := Kd.R_slice HO366.out
                      subst eo46
                      obtain ⟨ado46, fo46, _⟩ := Kd.at_bool (Kd.R_reads' HO366.out).2.2 0 (by decide) (by rw [Ny364.out]; simp)
                      cases fo46
                      refine hK.out _ _ ⟨(blk_cell BK342.out 0).trans rfl, (blk_cell BK342.out 1).trans rfl, (blk_cell BK342.out 2).trans rfl, (blk_cell BK342.out 3).trans rfl⟩ (fun hHeld => ?_)
                      clear hK K
                      refine norm_ (a' := _) ap_ ?_
                      refine pZ (i := 20) (N := some 88) #[Tt, Tt, Tt, Tt, Tt, Tt, Tt, Tt, Tt, Tt, Tt, Tt, Tt, Tt, Tt, Tt, Tt, Tt, Tt, Tt, Tt, Ff, Ff] ?_
                      refine one_ (i := 21) (N := some 89) #[Tt, Tt, Tt, Tt, Tt, Tt, Tt, Tt, Tt, Tt, Tt, Tt, Tt, Tt, Tt, Tt, Tt, Tt, Tt, Tt, Tt, Tt, Ff] rfl rfl (one_of HT_.out (by kernel_rfl)) (by decide) (fun K hK => ?_)
                      (have p367 : 0 ≤ (x14_3 : Int) := of_decide_eq_true as_; have q367 : x14_3 < (y364.length : Int) := of_decide_eq_true as_; obtain ⟨ad367, e367, hx367_0⟩ := Kd.at_bool (Kd.R_reads' HO366.out).2.2 x14_3 p367 q367; obtain rfl : ado46 = ad367 := (by injection e367)); (try rw [← Nbq37.out] at hx367_0)
                      refine value_ (w1 := ?_) (v := ?_) (by rfl) rfl ?_ ?_
                      rotate_left 2
                      ·go_simp
                       constructor
                       ·rfl
                       ·rfl
                      clear hx367_0
                      refine hK.out _ _ ⟨(blk_cell BK342.out 0).trans rfl, (blk_cell BK342.out 1).trans rfl, (blk_cell BK342.out 2).trans rfl, (blk_cell BK342.out 3).trans rfl⟩ (fun hHeld => ?_)
                      clear hK K
                      refine norm_ (a' := _) ap_ ?_
                      refine pZ (i := 22) (N := some 15) #[Tt, Tt, Tt, Tt, Tt, Tt, Tt, Tt, Tt, Tt, Tt, Tt, Tt, Tt, Tt, Tt, Tt, Tt, Tt, Tt, Tt, Tt, Tt] ?_
                      refine done_ (done_of HT_.out (by kernel_rfl)) ?_
                      try go_wp2
                      have pi371 : (0 ≤ (x14_3 : Int)) = True := eq_true (of_decide_eq_true as_)
                      have qi371 : (x14_3 < (y368.length : Int)) = True := eq_true (of_decide_eq_true as_)
                      have pi375 : (0 ≤ (x14_3 : Int)) = True := eq_true (of_decide_eq_true as_)
                      have qi375 : (x14_3 < (y372.length : Int)) = True := eq_true (of_decide_eq_true as_)
                      have n0_ := Aside0.mk (Kd.R_drew HO_5.out)
                      have n1_ := Aside0.mk (Kd.S_drew HO_6.out)
                      have n2_ := Aside0.mk (Kd.R_drew HO_8.out)
                      have n3_ := Aside0.mk (Kd.R_drew HO_9.out)
                      have n4_ := Aside0.mk (Kd.R_drew HO366.out)
                      have n5_ := Aside0.mk (blk_drew BK342.out)
                      have n6_ := Aside0.mk (below_drew1 HB.out)
                      clear HO_5
                      clear HO_6
                      clear HO_8
                      clear HO_9
                      clear HO366
                      clear BK342
                      clear HB
                      have HO_5 := n0_
                      have HO_6 := n1_
                      have HO_8 := n2_
                      have HO_9 := n3_
                      have HO366 := n4_
                      have BK342 := n5_
                      have HB := n6_
                      clear n0_ n1_ n2_ n3_ n4_ n5_ n6_
                      refine start_ (n := 14) (S := fun w' => True) (ds := []) #[Ff, Ff, Ff, Ff, Ff, Ff, Ff, Ff, Ff, Ff, Ff, Ff, Ff, Ff] (by kernel_rfl) rfl rfl trivial (fun hHeld => ?_); refine with_tabW spec_liRegions.tab21 spec_liRegions.bits21 (fun HT_ HW_ => ?_)
                      generalize w44.drew = w47 at HO_5 HO_6 HO_8 HO_9 HO366 BK342 HB hHeld ⊢
                      refine pZ (i := 0) (N := some 90) #[Tt, Ff, Ff, Ff, Ff, Ff, Ff, Ff, Ff, Ff, Ff, Ff, Ff, Ff] ?_
                      refine pZ (i := 2) (N := some 92) #[Tt, Ff, Tt, Ff, Ff, Ff, Ff, Ff, Ff, Ff, Ff, Ff, Ff, Ff] ?_
                      refine pZ (i := 6) (N := some 96) #[Tt, Ff, Tt, Ff, Ff, Ff, Tt, Ff, Ff, Ff, Ff, Ff, Ff, Ff] ?_
                      refine pZ (i := 8) (N := some 98) #[Tt, Ff, Tt, Ff, Ff, Ff, Tt, Ff, Tt, Ff, Ff, Ff, Ff, Ff] ?_
                      refine inv_at [1, 3, 4, 5, 7, 9, 10, 11, 12, 13] (fun a0_ b a w' => ∃ (v369 : Value) (adz_v369 : Addr) (v373 : Value) (adz_v373 : Addr) (m3_ : Value) (m9_ : Value), a = putSel a0_ b [(1, 91, v369), (3, 93, m3_), (4, 94, .int .i64 (rd y368 x14_3)), (5, 95, .int .i64 (wrap64 ((Int.tmod (rd x8_2 x11_2) a0_0) + (rd y368 x14_3)))), (7, 97, v373), (9, 99, m9_), (10, 100, .int .i64 (rd y372 x14_3)), (11, 101, .int .i64 (wrap64 ((wrap64 (Int.tdiv (rd x8_2 x11_2) a0_0)) + (rd y372 x14_3)))), (12, 16, .int .i64 (wrap64 ((Int.tmod (rd x8_2 x11_2) a0_0) + (rd y368 x14_3)))), (13, 17, .int .i64 (wrap64 ((wrap64 (Int.tdiv (rd x8_2 x11_2) a0_0)) + (rd y372 x14_3))))] ∧ (Kd.R Kd.bool 4 w' w.heap.size (fun k_ => some k_ ≠ (.slice (some ⟨go15, 0, none⟩) x5_3.length co9 : Value).ownBlock) (.slice (some ado46) y364.length co46) y364) ∧ (Kd.R Kd.bool 4 w' w.heap.size (fun k_ => some k_ ≠ (.slice (some ado46) y364.length co46 : Value).ownBlock) (.slice (some ⟨go15, 0, none⟩) x5_3.length co9) x5_3) ∧ (Kd.S (Kd.slice 3 (Kd.int .i64)) 22 w' w.heap.size (fun k_ => some k_ ≠ (u8 : Value).ownBlock ∧ some k_ ≠ (v358 : Value).ownBlock) u6 x6_1) ∧ (Kd.R (Kd.int .i64) 3 w' w.heap.size (fun k_ => some k_ ≠ (v358 : Value).ownBlock) u8 x8_3) ∧ (Kd.R (Kd.int .i64) 3 w' w.heap.size (fun k_ => some k_ ≠ (u8 : Value).ownBlock) v358 t357) ∧ (w'.heap[gb342]? = some (.cells #[.int .i64 a0_0, .int .i64 a0_1, .slice A0_2 l0_2.length c0_2, .slice A0_3 l0_3.length c0_3] 28 (0, 0))) ∧ (Below w.heap.size w w') ∧ (b 1 = true → Kd.R (Kd.int .i64) 3 w' w.heap.size (fun k_ => some k_ ≠ (u8 : Value).ownBlock ∧ some k_ ≠ (v358 : Value).ownBlock) v369 y368) ∧ (b 1 = true → ∃ c_, (v369 : Value) = .slice (some adz_v369) y368.length c_) ∧ (b 7 = true → Kd.R (Kd.int .i64) 3 w' w.heap.size (fun k_ => some k_ ≠ (u8 : Value).ownBlock ∧ some k_ ≠ (v358 : Value).ownBlock) v373 y372) ∧ (b 7 = true → ∃ c_, (v373 : Value) = .slice (some adz_v373) y372.length c_) ∧ (b 3 = true → (m3_ : Value) = .pointer (some (adz_v369.add (x14_3).toNat))) ∧ (b 9 = true → (m9_ : Value) = .pointer (some (adz_v373.add (x14_3).toNat)))) HT_.out HW_.out (by kernel_rfl) (by kernel_rfl) ?_ ?_ ?_
                      ·exact ⟨.bool false, ⟨0, 0, none⟩, .bool false, ⟨0, 0, none⟩, .bool false, .bool false, by simp only [putSel, Bool.false_eq_true, if_false], (Kd.R_mono HO366.out (fun _ hk => by and_intros <;> first | exact hk | exact hk.1 | exact hk.2 | exact hk.1.1 | exact hk.1.2 | exact hk.2.1 | exact hk.2.2 | trivial)), (Kd.R_mono HO_5.out (fun _ hk => by and_intros <;> first | exact hk | exact hk.1 | exact hk.2 | exact hk.1.1 | exact hk.1.2 | exact hk.2.1 | exact hk.2.2 | trivial)), HO_6.out, HO_8.out, HO_9.out, BK342.out, HB.out, fun h_ => absurd h_ (by decide), fun h_ => absurd h_ (by decide), fun h_ => absurd h_ (by decide), fun h_ => absurd h_ (by decide), fun h_ => absurd h_ (by decide), fun h_ => absurd h_ (by decide)⟩
                      ·skip
                       clear BK342 HB HO366 HO_5 HO_6 HO_8 HO_9
                       refine steps_cons ?_ ?_
                       ·rintro b a w' ⟨v369, adz_v369, v373, adz_v373, m3_, m9_, ha, Q_HO366, Q_HO_5, Q_HO_6, Q_HO_8, Q_HO_9, Q_BK342, Q_HB, Q_HO370, Q_HA_HO370, Q_HO374, Q_HA_HO374, Q_X3_, Q_X9_⟩ hb_ hon hoff
                        refine ⟨_, rfl, fun K hK => ?_⟩
                        replace ha := Aside0.mk ha
                        have HO366 := Aside0.mk Q_HO366
                        have HO_5 := Aside0.mk Q_HO_5
                        have HO_6 := Aside0.mk Q_HO_6
                        have HO_8 := Aside0.mk Q_HO_8
                        have HO_9 := Aside0.mk Q_HO_9
                        have BK342 := Aside0.mk Q_BK342
                        have HB := Aside0.mk Q_HB
                        refine Kd.R_lit_step (Kd.int .i64) _ 3 ?hg (N := 91) ?hd (xs := ([0, 1, 0, (-1)] : List Int)) (inner := [.int .i64 0, .int .i64 1, .int .i64 0, .int .i64 (-1)]) (ok := fun _ => True) (okp := fun _ => True) ?hr ?hp (fun _ hk => hk) trivial (Below.refl _ _) (Nat.le_refl _) (by simp) ?_; (case hd => rfl); (case hg => rfl); (case hr => first | (go_simp; done) | (go_simp; rfl)); (case hp => exact (Reps.one (show Kd.M (Kd.int .i64) _ _ _ 0 [.int .i64 0] from rfl) (Reps.one (show Kd.M (Kd.int .i64) _ _ _ 1 [.int .i64 1] from rfl) (Reps.one (show Kd.M (Kd.int .i64) _ _ _ 0 [.int .i64 0] from rfl) (Reps.one (show Kd.M (Kd.int .i64) _ _ _ (-1) [.int .i64 (-1)] from rfl) (Reps.none _ _))))))
                        intro v369 w48 ho49 hb hg_ hnew_
                        clear hg_ hnew_
                        (first | rw [← Ny368.out] at ho49 | (simp only [Int.reduceToNat] at ho49; rw [← Ny368.out] at ho49))
                        have n0_ := Aside0.mk (Kd.R_below (kr_ HO_5.out) hb)
                        have n1_ := Aside0.mk (Kd.S_elder' (by (with_reducible repeat (first | apply Kd.S_alloc | apply Kd.S_drewN | apply Kd.S_drew)); exact HO_6.out) (Kd.R_base ho49) hb)
                        have n2_ := Aside0.mk (Kd.R_elder' (kr_ HO_8.out) (Kd.R_base ho49) hb)
                        have n3_ := Aside0.mk (Kd.R_elder' (kr_ HO_9.out) (Kd.R_base ho49) hb)
                        have n4_ := Aside0.mk (Kd.R_below (kr_ HO366.out) hb)
                        have n5_ := Aside0.mk (Kd.R_lower (Kd.R_new' (Kd.R_new' ho49 (Kd.R_lt (kr_ HO_8.out))) (Kd.R_lt (kr_ HO_9.out))) (below_size (bl1_ HB.out GE342.out)))
                        have n6_ := Aside0.mk (bb_ BK342.out hb)
                        have n7_ := Aside0.mk (below_step (bl1_ HB.out GE342.out) hb)
                        have z_HO374 := fun (h0_ : b 7 = true) => (show Kd.R (Kd.int .i64) 3 w48 w.heap.size (fun k_ => some k_ ≠ (u8 : Value).ownBlock ∧ some k_ ≠ (v358 : Value).ownBlock) v373 y372 from by first | exact (Kd.R_elder' (by (with_reducible repeat (first | apply Kd.R_alloc | apply Kd.R_drewN | apply Kd.R_drew)); exact (Q_HO374 h0_)) (Kd.R_base ho49) hb) | exact Kd.R_mono (Kd.R_elder' (by (with_reducible repeat (first | apply Kd.R_alloc | apply Kd.R_drewN | apply Kd.R_drew)); exact (Q_HO374 h0_)) (Kd.R_base ho49) hb) (fun _ h_ => by first | trivial | exact h_ | exact h_.1))
                        clear HO_5
                        clear HO_6
                        clear HO_8
                        clear HO_9
                        clear HO366
                        clear BK342
                        clear HB
                        have HO_5 := n0_
                        have HO_6 := n1_
                        have HO_8 := n2_
                        have HO_9 := n3_
                        have HO366 := n4_
                        have HO370 := n5_
                        have BK342 := n6_
                        have HB := n7_
                        clear n0_ n1_ n2_ n3_ n4_ n5_ n6_ n7_
                        clear hb ho49
                        obtain ⟨Ao50, co50, eo50⟩ := Kd.R_slice HO370.out
                        subst eo50
                        obtain ⟨ado50, fo50, _⟩ := Kd.at_int (Kd.R_reads' HO370.out).2.2 0 (by decide) (by rw [Ny368.out]; simp)
                        cases fo50
                        refine hK.out _ _ ⟨.slice (some ado50) y368.length co50, ado50, v373, adz_v373, m3_, m9_, (by rw [ha.out]; exact putSel_upk 0 hb_ rfl rfl rfl), (by (with_reducible repeat (first | apply Kd.R_alloc | apply Kd.R_drewN | apply Kd.R_drew)); exact Kd.R_mono HO366.out (fun _ hk => by and_intros <;> first | exact hk | exact hk.1 | exact hk.2 | exact hk.1.1 | exact hk.1.2 | exact hk.2.1 | exact hk.2.2 | trivial)), (by (with_reducible repeat (first | apply Kd.R_alloc | apply Kd.R_drewN | apply Kd.R_drew)); exact Kd.R_mono HO_5.out (fun _ hk => by and_intros <;> first | exact hk | exact hk.1 | exact hk.2 | exact hk.1.1 | exact hk.1.2 | exact hk.2.1 | exact hk.2.2 | trivial)), (by (with_reducible repeat (first | apply Kd.S_alloc | apply Kd.S_drewN | apply Kd.S_drew)); exact Kd.S_mono HO_6.out (fun _ hk => by and_intros <;> first | exact hk | exact hk.1 | exact hk.2 | exact hk.1.1 | exact hk.1.2 | exact hk.2.1 | exact hk.2.2 | trivial)), (by (with_reducible repeat (first | apply Kd.R_alloc | apply Kd.R_drewN | apply Kd.R_drew)); exact Kd.R_mono HO_8.out (fun _ hk => by and_intros <;> first | exact hk | exact hk.1 | exact hk.2 | exact hk.1.1 | exact hk.1.2 | exact hk.2.1 | exact hk.2.2 | trivial)), (by (with_reducible repeat (first | apply Kd.R_alloc | apply Kd.R_drewN | apply Kd.R_drew)); exact Kd.R_mono HO_9.out (fun _ hk => by and_intros <;> first | exact hk | exact hk.1 | exact hk.2 | exact hk.1.1 | exact hk.1.2 | exact hk.2.1 | exact hk.2.2 | trivial)), (bk_ BK342.out), (bl1_ HB.out GE342.out), fun _ => (by (with_reducible repeat (first | apply Kd.R_alloc | apply Kd.R_drewN | apply Kd.R_drew)); exact Kd.R_mono HO370.out (fun _ hk => by and_intros <;> first | exact hk | exact hk.1 | exact hk.2 | exact hk.1.1 | exact hk.1.2 | exact hk.2.1 | exact hk.2.2 | trivial)), fun _ => ⟨_, rfl⟩, z_HO374, Q_HA_HO374, fun h0_ => absurd ((hoff 3 (by kernel_rfl)).symm.trans h0_) (by decide), Q_X9_⟩
                       refine steps_cons ?_ ?_
                       ·rintro b a w' ⟨v369, adz_v369, v373, adz_v373, m3_, m9_, ha, Q_HO366, Q_HO_5, Q_HO_6, Q_HO_8, Q_HO_9, Q_BK342, Q_HB, Q_HO370, Q_HA_HO370, Q_HO374, Q_HA_HO374, Q_X3_, Q_X9_⟩ hb_ hon hoff
                        refine ⟨_, rfl, fun K hK => ?_⟩
                        have e91 : a.tmps[91]? = some (v369) := by rw [ha]; exact putSel_on (e := (1, 91, v369)) 0 rfl rfl (hon 1 (by kernel_rfl)) rfl
                        have e92 : a.tmps[92]? = some (.int .i64 x14_3) := by rw [ha]; exact (putSel_off rfl).trans rfl
                        replace ha := Aside0.mk ha
                        have HO366 := Aside0.mk Q_HO366
                        have HO_5 := Aside0.mk Q_HO_5
                        have HO_6 := Aside0.mk Q_HO_6
                        have HO_8 := Aside0.mk Q_HO_8
                        have HO_9 := Aside0.mk Q_HO_9
                        have BK342 := Aside0.mk Q_BK342
                        have HB := Aside0.mk Q_HB
                        have HO370 := Aside0.mk (Q_HO370 (hon 1 (by kernel_rfl)))
                        have HA_HO370 := Aside0.mk (Q_HA_HO370 (hon 1 (by kernel_rfl)))
                        obtain ⟨c_, hv_⟩ := HA_HO370.out
                        rw [hv_] at e91
                        refine value_ (w1 := w') (v := .pointer (some (adz_v369.add (x14_3).toNat))) (by rfl) rfl ?_ ?_
                        ·go_simp
                         (try simp only [i64_w])
                         try rfl
                        refine hK.out _ _ ⟨v369, adz_v369, v373, adz_v373, (.pointer (some (adz_v369.add (x14_3).toNat))), m9_, (by rw [ha.out]; exact putSel_upk 1 hb_ rfl rfl rfl), Q_HO366, Q_HO_5, Q_HO_6, Q_HO_8, Q_HO_9, Q_BK342, Q_HB, Q_HO370, Q_HA_HO370, Q_HO374, Q_HA_HO374, fun _ => rfl, Q_X9_⟩
                       refine steps_cons ?_ ?_
                       ·rintro b a w' ⟨v369, adz_v369, v373, adz_v373, m3_, m9_, ha, Q_HO366, Q_HO_5, Q_HO_6, Q_HO_8, Q_HO_9, Q_BK342, Q_HB, Q_HO370, Q_HA_HO370, Q_HO374, Q_HA_HO374, Q_X3_, Q_X9_⟩ hb_ hon hoff
                        refine ⟨_, rfl, fun K hK => ?_⟩
                        have e93 : a.tmps[93]? = some (m3_) := by rw [ha]; exact putSel_on (e := (3, 93, m3_)) 1 rfl rfl (hon 3 (by kernel_rfl)) rfl
                        rw [Q_X3_ (hon 3 (by kernel_rfl))] at e93
                        replace ha := Aside0.mk ha
                        have HO366 := Aside0.mk Q_HO366
                        have HO_5 := Aside0.mk Q_HO_5
                        have HO_6 := Aside0.mk Q_HO_6
                        have HO_8 := Aside0.mk Q_HO_8
                        have HO_9 := Aside0.mk Q_HO_9
                        have BK342 := Aside0.mk Q_BK342
                        have HB := Aside0.mk Q_HB
                        have HO370 := Aside0.mk (Q_HO370 (hon 1 (by kernel_rfl)))
                        have HA_HO370 := Aside0.mk (Q_HA_HO370 (hon 1 (by kernel_rfl)))
                        obtain ⟨c_, hv_⟩ := HA_HO370.out
                        have hF_ := HO370.out
                        rw [hv_] at hF_
                        obtain ⟨ad_, ea_, hx_⟩ := Kd.at_int (Kd.R_reads' hF_).2.2 x14_3 (of_eq_true pi371) (of_eq_true qi371)
                        cases ea_
                        refine value_ (w1 := w') (v := .int .i64 (rd y368 x14_3)) (by rfl) rfl ?_ ?_
                        ·go_simp
                         (try simp only [i64_w])
                         try rfl
                        refine hK.out _ _ ⟨v369, adz_v369, v373, adz_v373, m3_, m9_, (by rw [ha.out]; exact putSel_upk 2 hb_ rfl rfl rfl), Q_HO366, Q_HO_5, Q_HO_6, Q_HO_8, Q_HO_9, Q_BK342, Q_HB, Q_HO370, Q_HA_HO370, Q_HO374, Q_HA_HO374, Q_X3_, Q_X9_⟩
                       refine steps_cons ?_ ?_
                       ·rintro b a w' ⟨v369, adz_v369, v373, adz_v373, m3_, m9_, ha, Q_HO366, Q_HO_5, Q_HO_6, Q_HO_8, Q_HO_9, Q_BK342, Q_HB, Q_HO370, Q_HA_HO370, Q_HO374, Q_HA_HO374, Q_X3_, Q_X9_⟩ hb_ hon hoff
                        refine ⟨_, rfl, fun K hK => ?_⟩
                        have e90 : a.tmps[90]? = some (.int .i64 (Int.tmod (rd x8_2 x11_2) a0_0)) := by rw [ha]; exact (putSel_off rfl).trans rfl
                        have e94 : a.tmps[94]? = some (.int .i64 (rd y368 x14_3)) := by rw [ha]; exact putSel_on (e := (4, 94, .int .i64 (rd y368 x14_3))) 2 rfl rfl (hon 4 (by kernel_rfl)) rfl
                        replace ha := Aside0.mk ha
                        have HO366 := Aside0.mk Q_HO366
                        have HO_5 := Aside0.mk Q_HO_5
                        have HO_6 := Aside0.mk Q_HO_6
                        have HO_8 := Aside0.mk Q_HO_8
                        have HO_9 := Aside0.mk Q_HO_9
                        have BK342 := Aside0.mk Q_BK342
                        have HB := Aside0.mk Q_HB
                        have HO370 := Aside0.mk (Q_HO370 (hon 1 (by kernel_rfl)))
                        have HA_HO370 := Aside0.mk (Q_HA_HO370 (hon 1 (by kernel_rfl)))
                        refine value_ (w1 := w') (v := .int .i64 (wrap64 ((Int.tmod (rd x8_2 x11_2) a0_0) + (rd y368 x14_3)))) (by rfl) rfl ?_ ?_
                        ·go_simp
                         (try simp only [i64_w])
                         try rfl
                        refine hK.out _ _ ⟨v369, adz_v369, v373, adz_v373, m3_, m9_, (by rw [ha.out]; exact putSel_upk 3 hb_ rfl rfl rfl), Q_HO366, Q_HO_5, Q_HO_6, Q_HO_8, Q_HO_9, Q_BK342, Q_HB, Q_HO370, Q_HA_HO370, Q_HO374, Q_HA_HO374, Q_X3_, Q_X9_⟩
                       refine steps_cons ?_ ?_
                       ·rintro b a w' ⟨v369, adz_v369, v373, adz_v373, m3_, m9_, ha, Q_HO366, Q_HO_5, Q_HO_6, Q_HO_8, Q_HO_9, Q_BK342, Q_HB, Q_HO370, Q_HA_HO370, Q_HO374, Q_HA_HO374, Q_X3_, Q_X9_⟩ hb_ hon hoff
                        refine ⟨_, rfl, fun K hK => ?_⟩
                        replace ha := Aside0.mk ha
                        have HO366 := Aside0.mk Q_HO366
                        have HO_5 := Aside0.mk Q_HO_5
                        have HO_6 := Aside0.mk Q_HO_6
                        have HO_8 := Aside0.mk Q_HO_8
                        have HO_9 := Aside0.mk Q_HO_9
                        have BK342 := Aside0.mk Q_BK342
                        have HB := Aside0.mk Q_HB
                        refine Kd.R_lit_step (Kd.int .i64) _ 3 ?hg (N := 97) ?hd (xs := ([(-1), 0, 1, 0] : List Int)) (inner := [.int .i64 (-1), .int .i64 0, .int .i64 1, .int .i64 0]) (ok := fun _ => True) (okp := fun _ => True) ?hr ?hp (fun _ hk => hk) trivial (Below.refl _ _) (Nat.le_refl _) (by simp) ?_; (case hd => rfl); (case hg => rfl); (case hr => first | (go_simp; done) | (go_simp; rfl)); (case hp => exact (Reps.one (show Kd.M (Kd.int .i64) _ _ _ (-1) [.int .i64 (-1)] from rfl) (Reps.one (show Kd.M (Kd.int .i64) _ _ _ 0 [.int .i64 0] from rfl) (Reps.one (show Kd.M (Kd.int .i64) _ _ _ 1 [.int .i64 1] from rfl) (Reps.one (show Kd.M (Kd.int .i64) _ _ _ 0 [.int .i64 0] from rfl) (Reps.none _ _))))))
                        intro v373 w48 ho49 hb hg_ hnew_
                        clear hg_ hnew_
                        (first | rw [← Ny372.out] at ho49 | (simp only [Int.reduceToNat] at ho49; rw [← Ny372.out] at ho49))
                        have n0_ := Aside0.mk (Kd.R_below (kr_ HO_5.out) hb)
                        have n1_ := Aside0.mk (Kd.S_elder' (by (with_reducible repeat (first | apply Kd.S_alloc | apply Kd.S_drewN | apply Kd.S_drew)); exact HO_6.out) (Kd.R_base ho49) hb)
                        have n2_ := Aside0.mk (Kd.R_elder' (kr_ HO_8.out) (Kd.R_base ho49) hb)
                        have n3_ := Aside0.mk (Kd.R_elder' (kr_ HO_9.out) (Kd.R_base ho49) hb)
                        have n4_ := Aside0.mk (Kd.R_below (kr_ HO366.out) hb)
                        have n5_ := Aside0.mk (Kd.R_lower (Kd.R_new' (Kd.R_new' ho49 (Kd.R_lt (kr_ HO_8.out))) (Kd.R_lt (kr_ HO_9.out))) (below_size (bl1_ HB.out GE342.out)))
                        have n6_ := Aside0.mk (bb_ BK342.out hb)
                        have n7_ := Aside0.mk (below_step (bl1_ HB.out GE342.out) hb)
                        have z_HO370 := fun (h0_ : b 1 = true) => (show Kd.R (Kd.int .i64) 3 w48 w.heap.size (fun k_ => some k_ ≠ (u8 : Value).ownBlock ∧ some k_ ≠ (v358 : Value).ownBlock) v369 y368 from by first | exact (Kd.R_elder' (by (with_reducible repeat (first | apply Kd.R_alloc | apply Kd.R_drewN | apply Kd.R_drew)); exact (Q_HO370 h0_)) (Kd.R_base ho49) hb) | exact Kd.R_mono (Kd.R_elder' (by (with_reducible repeat (first | apply Kd.R_alloc | apply Kd.R_drewN | apply Kd.R_drew)); exact (Q_HO370 h0_)) (Kd.R_base ho49) hb) (fun _ h_ => by first | trivial | exact h_ | exact h_.1))
                        clear HO_5
                        clear HO_6
                        clear HO_8
                        clear HO_9
                        clear HO366
                        clear BK342
                        clear HB
                        have HO_5 := n0_
                        have HO_6 := n1_
                        have HO_8 := n2_
                        have HO_9 := n3_
                        have HO366 := n4_
                        have HO374 := n5_
                        have BK342 := n6_
                        have HB := n7_
                        clear n0_ n1_ n2_ n3_ n4_ n5_ n6_ n7_
                        clear hb ho49
                        obtain ⟨Ao50, co50, eo50⟩ := Kd.R_slice HO374.out
                        subst eo50
                        obtain ⟨ado50, fo50, _⟩ := Kd.at_int (Kd.R_reads' HO374.out).2.2 0 (by decide) (by rw [Ny372.out]; simp)
                        cases fo50
                        refine hK.out _ _ ⟨v369, adz_v369, .slice (some ado50) y372.length co50, ado50, m3_, m9_, (by rw [ha.out]; exact putSel_upk 4 hb_ rfl rfl rfl), (by (with_reducible repeat (first | apply Kd.R_alloc | apply Kd.R_drewN | apply Kd.R_drew)); exact Kd.R_mono HO366.out (fun _ hk => by and_intros <;> first | exact hk | exact hk.1 | exact hk.2 | exact hk.1.1 | exact hk.1.2 | exact hk.2.1 | exact hk.2.2 | trivial)), (by (with_reducible repeat (first | apply Kd.R_alloc | apply Kd.R_drewN | apply Kd.R_drew)); exact Kd.R_mono HO_5.out (fun _ hk => by and_intros <;> first | exact hk | exact hk.1 | exact hk.2 | exact hk.1.1 | exact hk.1.2 | exact hk.2.1 | exact hk.2.2 | trivial)), (by (with_reducible repeat (first | apply Kd.S_alloc | apply Kd.S_drewN | apply Kd.S_drew)); exact Kd.S_mono HO_6.out (fun _ hk => by and_intros <;> first | exact hk | exact hk.1 | exact hk.2 | exact hk.1.1 | exact hk.1.2 | exact hk.2.1 | exact hk.2.2 | trivial)), (by (with_reducible repeat (first | apply Kd.R_alloc | apply Kd.R_drewN | apply Kd.R_drew)); exact Kd.R_mono HO_8.out (fun _ hk => by and_intros <;> first | exact hk | exact hk.1 | exact hk.2 | exact hk.1.1 | exact hk.1.2 | exact hk.2.1 | exact hk.2.2 | trivial)), (by (with_reducible repeat (first | apply Kd.R_alloc | apply Kd.R_drewN | apply Kd.R_drew)); exact Kd.R_mono HO_9.out (fun _ hk => by and_intros <;> first | exact hk | exact hk.1 | exact hk.2 | exact hk.1.1 | exact hk.1.2 | exact hk.2.1 | exact hk.2.2 | trivial)), (bk_ BK342.out), (bl1_ HB.out GE342.out), z_HO370, Q_HA_HO370, fun _ => (by (with_reducible repeat (first | apply Kd.R_alloc | apply Kd.R_drewN | apply Kd.R_drew)); exact Kd.R_mono HO374.out (fun _ hk => by and_intros <;> first | exact hk | exact hk.1 | exact hk.2 | exact hk.1.1 | exact hk.1.2 | exact hk.2.1 | exact hk.2.2 | trivial)), fun _ => ⟨_, rfl⟩, Q_X3_, fun h0_ => absurd ((hoff 9 (by kernel_rfl)).symm.trans h0_) (by decide)⟩
                       refine steps_cons ?_ ?_
                       ·rintro b a w' ⟨v369, adz_v369, v373, adz_v373, m3_, m9_, ha, Q_HO366, Q_HO_5, Q_HO_6, Q_HO_8, Q_HO_9, Q_BK342, Q_HB, Q_HO370, Q_HA_HO370, Q_HO374, Q_HA_HO374, Q_X3_, Q_X9_⟩ hb_ hon hoff
                        refine ⟨_, rfl, fun K hK => ?_⟩
                        have e97 : a.tmps[97]? = some (v373) := by rw [ha]; exact putSel_on (e := (7, 97, v373)) 4 rfl rfl (hon 7 (by kernel_rfl)) rfl
                        have e98 : a.tmps[98]? = some (.int .i64 x14_3) := by rw [ha]; exact (putSel_off rfl).trans rfl
                        replace ha := Aside0.mk ha
                        have HO366 := Aside0.mk Q_HO366
                        have HO_5 := Aside0.mk Q_HO_5
                        have HO_6 := Aside0.mk Q_HO_6
                        have HO_8 := Aside0.mk Q_HO_8
                        have HO_9 := Aside0.mk Q_HO_9
                        have BK342 := Aside0.mk Q_BK342
                        have HB := Aside0.mk Q_HB
                        have HO374 := Aside0.mk (Q_HO374 (hon 7 (by kernel_rfl)))
                        have HA_HO374 := Aside0.mk (Q_HA_HO374 (hon 7 (by kernel_rfl)))
                        obtain ⟨c_, hv_⟩ := HA_HO374.out
                        rw [hv_] at e97
                        refine value_ (w1 := w') (v := .pointer (some (adz_v373.add (x14_3).toNat))) (by rfl) rfl ?_ ?_
                        ·go_simp
                         (try simp only [i64_w])
                         try rfl
                        refine hK.out _ _ ⟨v369, adz_v369, v373, adz_v373, m3_, (.pointer (some (adz_v373.add (x14_3).toNat))), (by rw [ha.out]; exact putSel_upk 5 hb_ rfl rfl rfl), Q_HO366, Q_HO_5, Q_HO_6, Q_HO_8, Q_HO_9, Q_BK342, Q_HB, Q_HO370, Q_HA_HO370, Q_HO374, Q_HA_HO374, Q_X3_, fun _ => rfl⟩
                       refine steps_cons ?_ ?_
                       ·rintro b a w' ⟨v369, adz_v369, v373, adz_v373, m3_, m9_, ha, Q_HO366, Q_HO_5, Q_HO_6, Q_HO_8, Q_HO_9, Q_BK342, Q_HB, Q_HO370, Q_HA_HO370, Q_HO374, Q_HA_HO374, Q_X3_, Q_X9_⟩ hb_ hon hoff
                        refine ⟨_, rfl, fun K hK => ?_⟩
                        have e99 : a.tmps[99]? = some (m9_) := by rw [ha]; exact putSel_on (e := (9, 99, m9_)) 5 rfl rfl (hon 9 (by kernel_rfl)) rfl
                        rw [Q_X9_ (hon 9 (by kernel_rfl))] at e99
                        replace ha := Aside0.mk ha
                        have HO366 := Aside0.mk Q_HO366
                        have HO_5 := Aside0.mk Q_HO_5
                        have HO_6 := Aside0.mk Q_HO_6
                        have HO_8 := Aside0.mk Q_HO_8
                        have HO_9 := Aside0.mk Q_HO_9
                        have BK342 := Aside0.mk Q_BK342
                        have HB := Aside0.mk Q_HB
                        have HO374 := Aside0.mk (Q_HO374 (hon 7 (by kernel_rfl)))
                        have HA_HO374 := Aside0.mk (Q_HA_HO374 (hon 7 (by kernel_rfl)))
                        obtain ⟨c_, hv_⟩ := HA_HO374.out
                        have hF_ := HO374.out
                        rw [hv_] at hF_
                        obtain ⟨ad_, ea_, hx_⟩ := Kd.at_int (Kd.R_reads' hF_).2.2 x14_3 (of_eq_true pi375) (of_eq_true qi375)
                        cases ea_
                        refine value_ (w1 := w') (v := .int .i64 (rd y372 x14_3)) (by rfl) rfl ?_ ?_
                        ·go_simp
                         (try simp only [i64_w])
                         try rfl
                        refine hK.out _ _ ⟨v369, adz_v369, v373, adz_v373, m3_, m9_, (by rw [ha.out]; exact putSel_upk 6 hb_ rfl rfl rfl), Q_HO366, Q_HO_5, Q_HO_6, Q_HO_8, Q_HO_9, Q_BK342, Q_HB, Q_HO370, Q_HA_HO370, Q_HO374, Q_HA_HO374, Q_X3_, Q_X9_⟩
                       refine steps_cons ?_ ?_
                       ·rintro b a w' ⟨v369, adz_v369, v373, adz_v373, m3_, m9_, ha, Q_HO366, Q_HO_5, Q_HO_6, Q_HO_8, Q_HO_9, Q_BK342, Q_HB, Q_HO370, Q_HA_HO370, Q_HO374, Q_HA_HO374, Q_X3_, Q_X9_⟩ hb_ hon hoff
                        refine ⟨_, rfl, fun K hK => ?_⟩
                        have e96 : a.tmps[96]? = some (.int .i64 (wrap64 (Int.tdiv (rd x8_2 x11_2) a0_0))) := by rw [ha]; exact (putSel_off rfl).trans rfl
                        have e100 : a.tmps[100]? = some (.int .i64 (rd y372 x14_3)) := by rw [ha]; exact putSel_on (e := (10, 100, .int .i64 (rd y372 x14_3))) 6 rfl rfl (hon 10 (by kernel_rfl)) rfl
                        replace ha := Aside0.mk ha
                        have HO366 := Aside0.mk Q_HO366
                        have HO_5 := Aside0.mk Q_HO_5
                        have HO_6 := Aside0.mk Q_HO_6
                        have HO_8 := Aside0.mk Q_HO_8
                        have HO_9 := Aside0.mk Q_HO_9
                        have BK342 := Aside0.mk Q_BK342
                        have HB := Aside0.mk Q_HB
                        have HO374 := Aside0.mk (Q_HO374 (hon 7 (by kernel_rfl)))
                        have HA_HO374 := Aside0.mk (Q_HA_HO374 (hon 7 (by kernel_rfl)))
                        refine value_ (w1 := w') (v := .int .i64 (wrap64 ((wrap64 (Int.tdiv (rd x8_2 x11_2) a0_0)) + (rd y372 x14_3)))) (by rfl) rfl ?_ ?_
                        ·go_simp
                         (try simp only [i64_w])
                         try rfl
                        refine hK.out _ _ ⟨v369, adz_v369, v373, adz_v373, m3_, m9_, (by rw [ha.out]; exact putSel_upk 7 hb_ rfl rfl rfl), Q_HO366, Q_HO_5, Q_HO_6, Q_HO_8, Q_HO_9, Q_BK342, Q_HB, Q_HO370, Q_HA_HO370, Q_HO374, Q_HA_HO374, Q_X3_, Q_X9_⟩
                       refine steps_cons ?_ ?_
                       ·rintro b a w' ⟨v369, adz_v369, v373, adz_v373, m3_, m9_, ha, Q_HO366, Q_HO_5, Q_HO_6, Q_HO_8, Q_HO_9, Q_BK342, Q_HB, Q_HO370, Q_HA_HO370, Q_HO374, Q_HA_HO374, Q_X3_, Q_X9_⟩ hb_ hon hoff
                        refine ⟨_, rfl, fun K hK => ?_⟩
                        have e95 : a.tmps[95]? = some (.int .i64 (wrap64 ((Int.tmod (rd x8_2 x11_2) a0_0) + (rd y368 x14_3)))) := by rw [ha]; exact putSel_on (e := (5, 95, .int .i64 (wrap64 ((Int.tmod (rd x8_2 x11_2) a0_0) + (rd y368 x14_3))))) 3 rfl rfl (hon 5 (by kernel_rfl)) rfl
                        replace ha := Aside0.mk ha
                        have HO366 := Aside0.mk Q_HO366
                        have HO_5 := Aside0.mk Q_HO_5
                        have HO_6 := Aside0.mk Q_HO_6
                        have HO_8 := Aside0.mk Q_HO_8
                        have HO_9 := Aside0.mk Q_HO_9
                        have BK342 := Aside0.mk Q_BK342
                        have HB := Aside0.mk Q_HB
                        have HO370 := Aside0.mk (Q_HO370 (hon 1 (by kernel_rfl)))
                        have HA_HO370 := Aside0.mk (Q_HA_HO370 (hon 1 (by kernel_rfl)))
                        refine value_ (w1 := w') (v := .int .i64 (wrap64 ((Int.tmod (rd x8_2 x11_2) a0_0) + (rd y368 x14_3)))) (by rfl) rfl ?_ ?_
                        ·go_simp
                         (try simp only [i64_w])
                         try rfl
                        refine hK.out _ _ ⟨v369, adz_v369, v373, adz_v373, m3_, m9_, (by rw [ha.out]; exact putSel_upk 8 hb_ rfl rfl rfl), Q_HO366, Q_HO_5, Q_HO_6, Q_HO_8, Q_HO_9, Q_BK342, Q_HB, Q_HO370, Q_HA_HO370, Q_HO374, Q_HA_HO374, Q_X3_, Q_X9_⟩
                       refine steps_cons ?_ ?_
                       ·rintro b a w' ⟨v369, adz_v369, v373, adz_v373, m3_, m9_, ha, Q_HO366, Q_HO_5, Q_HO_6, Q_HO_8, Q_HO_9, Q_BK342, Q_HB, Q_HO370, Q_HA_HO370, Q_HO374, Q_HA_HO374, Q_X3_, Q_X9_⟩ hb_ hon hoff
                        refine ⟨_, rfl, fun K hK => ?_⟩
                        have e101 : a.tmps[101]? = some (.int .i64 (wrap64 ((wrap64 (Int.tdiv (rd x8_2 x11_2) a0_0)) + (rd y372 x14_3)))) := by rw [ha]; exact putSel_on (e := (11, 101, .int .i64 (wrap64 ((wrap64 (Int.tdiv (rd x8_2 x11_2) a0_0)) + (rd y372 x14_3))))) 7 rfl rfl (hon 11 (by kernel_rfl)) rfl
                        replace ha := Aside0.mk ha
                        have HO366 := Aside0.mk Q_HO366
                        have HO_5 := Aside0.mk Q_HO_5
                        have HO_6 := Aside0.mk Q_HO_6
                        have HO_8 := Aside0.mk Q_HO_8
                        have HO_9 := Aside0.mk Q_HO_9
                        have BK342 := Aside0.mk Q_BK342
                        have HB := Aside0.mk Q_HB
                        have HO370 := Aside0.mk (Q_HO370 (hon 1 (by kernel_rfl)))
                        have HA_HO370 := Aside0.mk (Q_HA_HO370 (hon 1 (by kernel_rfl)))
                        have HO374 := Aside0.mk (Q_HO374 (hon 7 (by kernel_rfl)))
                        have HA_HO374 := Aside0.mk (Q_HA_HO374 (hon 7 (by kernel_rfl)))
                        refine value_ (w1 := w') (v := .int .i64 (wrap64 ((wrap64 (Int.tdiv (rd x8_2 x11_2) a0_0)) + (rd y372 x14_3)))) (by rfl) rfl ?_ ?_
                        ·go_simp
                         (try simp only [i64_w])
                         try rfl
                        refine hK.out _ _ ⟨v369, adz_v369, v373, adz_v373, m3_, m9_, (by rw [ha.out]; exact putSel_upk 9 hb_ rfl rfl rfl), Q_HO366, Q_HO_5, Q_HO_6, Q_HO_8, Q_HO_9, Q_BK342, Q_HB, Q_HO370, Q_HA_HO370, Q_HO374, Q_HA_HO374, Q_X3_, Q_X9_⟩
                       exact steps_nil
                      rintro b a w54 hall ⟨v369, adz_v369, v373, adz_v373, m3_, m9_, ha, Q_HO366, Q_HO_5, Q_HO_6, Q_HO_8, Q_HO_9, Q_BK342, Q_HB, Q_HO370, Q_HA_HO370, Q_HO374, Q_HA_HO374, Q_X3_, Q_X9_⟩
                      clear BK342 HB HO366 HO_5 HO_6 HO_8 HO_9
                      have hb1_ := hall 1 (by kernel_rfl)
                      have hb3_ := hall 3 (by kernel_rfl)
                      have hb4_ := hall 4 (by kernel_rfl)
                      have hb5_ := hall 5 (by kernel_rfl)
                      have hb7_ := hall 7 (by kernel_rfl)
                      have hb9_ := hall 9 (by kernel_rfl)
                      have hb10_ := hall 10 (by kernel_rfl)
                      have hb11_ := hall 11 (by kernel_rfl)
                      have hb12_ := hall 12 (by kernel_rfl)
                      have hb13_ := hall 13 (by kernel_rfl)
                      subst ha
                      obtain rfl := Q_X3_ hb3_
                      obtain rfl := Q_X9_ hb9_
                      simp only [putSel, hb1_, hb3_, hb4_, hb5_, hb7_, hb9_, hb10_, hb11_, hb12_, hb13_, if_true, Act.put, List.setIfInBounds_toArray, List.set_cons_zero, List.set_cons_succ]
                      have HO366 := Aside0.mk Q_HO366
                      clear Q_HO366
                      have HO_5 := Aside0.mk Q_HO_5
                      clear Q_HO_5
                      have HO_6 := Aside0.mk Q_HO_6
                      clear Q_HO_6
                      have HO_8 := Aside0.mk Q_HO_8
                      clear Q_HO_8
                      have HO_9 := Aside0.mk Q_HO_9
                      clear Q_HO_9
                      have BK342 := Aside0.mk Q_BK342
                      clear Q_BK342
                      have HB := Aside0.mk Q_HB
                      clear Q_HB
                      have HO370 := Aside0.mk (Q_HO370 hb1_)
                      clear Q_HO370
                      have HA_HO370 := Aside0.mk (Q_HA_HO370 hb1_)
                      clear Q_HA_HO370
                      have HO374 := Aside0.mk (Q_HO374 hb7_)
                      clear Q_HO374
                      have HA_HO374 := Aside0.mk (Q_HA_HO374 hb7_)
                      clear Q_HA_HO374
                      clear hall hb1_ hb3_ hb4_ hb5_ hb7_ hb9_ hb10_ hb11_ hb12_ hb13_
                      obtain ⟨co55, eo55⟩ := HA_HO370.out
                      clear HA_HO370
                      subst eo55
                      obtain ⟨co56, eo56⟩ := HA_HO374.out
                      clear HA_HO374
                      subst eo56
                      try go_wp2
                      (try simp only [← hl5_3])
                      go_roundg k3
                      case measure => have := HK1.out; have := HK2.out; have := HK3.out; omega
                      case rel => exact ⟨(x5_3), (x8_3), (x10_3), (wrap64 (x14_3 + 1)), rs_, rs_, H', ⟨by have := HK1.out; have := HK2.out; have := HK3.out; omega⟩, ⟨by (try simp only [hl5_1]); (try simp only [hl5_2]); (try simp only [hl5_3]); (with_reducible repeat (first | apply Kd.R_alloc | apply Kd.R_drewN | apply Kd.R_drew)); exact Kd.R_mono HO_5.out (fun _ hk => trivial)⟩, ⟨by (try simp only [hl5_1]); (try simp only [hl5_2]); (try simp only [hl5_3]); (with_reducible repeat (first | apply Kd.S_alloc | apply Kd.S_drewN | apply Kd.S_drew)); exact Kd.S_mono HO_6.out (fun _ hk => by and_intros <;> first | exact hk | exact hk.1 | exact hk.2 | exact hk.1.1 | exact hk.1.2 | exact hk.2.1 | exact hk.2.2 | trivial)⟩, ⟨by (try simp only [hl5_1]); (try simp only [hl5_2]); (try simp only [hl5_3]); (with_reducible repeat (first | apply Kd.R_alloc | apply Kd.R_drewN | apply Kd.R_drew)); exact Kd.R_mono HO_8.out (fun _ hk => by and_intros <;> first | exact hk | exact hk.1 | exact hk.2 | exact hk.1.1 | exact hk.1.2 | exact hk.2.1 | exact hk.2.2 | trivial)⟩, ⟨by (try simp only [hl5_1]); (try simp only [hl5_2]); (try simp only [hl5_3]); (with_reducible repeat (first | apply Kd.R_alloc | apply Kd.R_drewN | apply Kd.R_drew)); exact Kd.R_mono HO_9.out (fun _ hk => by and_intros <;> first | exact hk | exact hk.1 | exact hk.2 | exact hk.1.1 | exact hk.1.2 | exact hk.2.1 | exact hk.2.2 | trivial)⟩, ⟨by (try simp only [hl5_1]); (try simp only [hl5_2]); (try simp only [hl5_3]); (with_reducible repeat (first | refine blk_drewN ?_ _ | refine blk_drew ?_ | refine blk_alloc ?_ _)); exact BK342.out⟩, ⟨bl1_ HB.out GE342.out⟩⟩
                     ·replace c38 := Bool.eq_false_iff.mpr c38
                      subst c38
                      have H1 : ((spec_l1In.f (wrap64 ((Int.tmod (rd x8_2 x11_2) a0_0) + (rd y368 x14_3))) 0 (wrap64 (a0_0 - 1))).bind fun t376 => (if t376 = true then ((spec_l1In.f (wrap64 ((wrap64 (Int.tdiv (rd x8_2 x11_2) a0_0)) + (rd y372 x14_3))) 0 (wrap64 (a0_1 - 1))).bind fun t377 => (spec_liRegions.j3 k3 a0_0 a0_1 x5_3 x6_1 x8_3 t357 x10_3 x11_2 (Int.tmod (rd x8_2 x11_2) a0_0) (wrap64 (Int.tdiv (rd x8_2 x11_2) a0_0)) x14_3 (wrap64 ((Int.tmod (rd x8_2 x11_2) a0_0) + (rd y368 x14_3))) (wrap64 ((wrap64 (Int.tdiv (rd x8_2 x11_2) a0_0)) + (rd y372 x14_3))) (y343.length : Int) x28_1 (!t377) a0_0 a0_1 l0_2 l0_3)) else (spec_liRegions.j3 k3 a0_0 a0_1 x5_3 x6_1 x8_3 t357 x10_3 x11_2 (Int.tmod (rd x8_2 x11_2) a0_0) (wrap64 (Int.tdiv (rd x8_2 x11_2) a0_0)) x14_3 (wrap64 ((Int.tmod (rd x8_2 x11_2) a0_0) + (rd y368 x14_3))) (wrap64 ((wrap64 (Int.tdiv (rd x8_2 x11_2) a0_0)) + (rd y372 x14_3))) (y343.length : Int) x28_1 true a0_0 a0_1 l0_2 l0_3))) = some r := by rw [if_neg (show ¬ (false = true) by decide)] at H; exact H
                      clear H
                      have H := H1
                      clear H1
                      have HC57 := Aside0.mk H
                      clear H
                      try go_wp2
                      have pi367 : (0 ≤ (x14_3 : Int)) = True := eq_true (of_decide_eq_true as_)
                      have qi367 : (x14_3 < (y364.length : Int)) = True := eq_true (of_decide_eq_true as_)
                      have n0_ := Aside0.mk (Kd.R_drew HO_5.out)
                      have n1_ := Aside0.mk (Kd.S_drew HO_6.out)
                      have n2_ := Aside0.mk (Kd.R_drew HO_8.out)
                      have n3_ := Aside0.mk (Kd.R_drew HO_9.out)
                      have n4_ := Aside0.mk (blk_drew BK342.out)
                      have n5_ := Aside0.mk (below_drew1 HB.out)
                      clear HO_5
                      clear HO_6
                      clear HO_8
                      clear HO_9
                      clear BK342
                      clear HB
                      have HO_5 := n0_
                      have HO_6 := n1_
                      have HO_8 := n2_
                      have HO_9 := n3_
                      have BK342 := n4_
                      have HB := n5_
                      clear n0_ n1_ n2_ n3_ n4_ n5_
                      refine start_ (n := 23) (S := fun w' => w'.cell? ⟨gb342, 0, none⟩ = some (.int .i64 a0_0) ∧ w'.cell? ⟨gb342, 1, none⟩ = some (.int .i64 a0_1) ∧ w'.cell? ⟨gb342, 2, none⟩ = some (.slice A0_2 l0_2.length c0_2) ∧ w'.cell? ⟨gb342, 3, none⟩ = some (.slice A0_3 l0_3.length c0_3)) (ds := []) #[Ff, Ff, Ff, Ff, Ff, Ff, Ff, Ff, Ff, Ff, Ff, Ff, Ff, Ff, Ff, Ff, Ff, Ff, Ff, Ff, Ff, Ff, Ff] (by kernel_rfl) rfl rfl ⟨(blk_cell BK342.out 0).trans rfl, (blk_cell BK342.out 1).trans rfl, (blk_cell BK342.out 2).trans rfl, (blk_cell BK342.out 3).trans rfl⟩ (fun hHeld => ?_); refine with_tabW spec_liRegions.tab20 spec_liRegions.bits20 (fun HT_ HW_ => ?_)
                      generalize wr.drew = w58 at HO_5 HO_6 HO_8 HO_9 BK342 HB hHeld ⊢
                      refine pZ (i := 1) (N := some 69) #[Ff, Tt, Ff, Ff, Ff, Ff, Ff, Ff, Ff, Ff, Ff, Ff, Ff, Ff, Ff, Ff, Ff, Ff, Ff, Ff, Ff, Ff, Ff] ?_
                      refine pZ (i := 2) (N := some 70) #[Ff, Tt, Tt, Ff, Ff, Ff, Ff, Ff, Ff, Ff, Ff, Ff, Ff, Ff, Ff, Ff, Ff, Ff, Ff, Ff, Ff, Ff, Ff] ?_
                      refine pZ (i := 5) (N := some 73) #[Ff, Tt, Tt, Ff, Ff, Tt, Ff, Ff, Ff, Ff, Ff, Ff, Ff, Ff, Ff, Ff, Ff, Ff, Ff, Ff, Ff, Ff, Ff] ?_
                      refine pZ (i := 6) (N := some 74) #[Ff, Tt, Tt, Ff, Ff, Tt, Tt, Ff, Ff, Ff, Ff, Ff, Ff, Ff, Ff, Ff, Ff, Ff, Ff, Ff, Ff, Ff, Ff] ?_
                      refine pZ (i := 7) (N := some 75) #[Ff, Tt, Tt, Ff, Ff, Tt, Tt, Tt, Ff, Ff, Ff, Ff, Ff, Ff, Ff, Ff, Ff, Ff, Ff, Ff, Ff, Ff, Ff] ?_
                      refine pZ (i := 10) (N := some 78) #[Ff, Tt, Tt, Ff, Ff, Tt, Tt, Tt, Ff, Ff, Tt, Ff, Ff, Ff, Ff, Ff, Ff, Ff, Ff, Ff, Ff, Ff, Ff] ?_
                      refine pZ (i := 11) (N := some 79) #[Ff, Tt, Tt, Ff, Ff, Tt, Tt, Tt, Ff, Ff, Tt, Tt, Ff, Ff, Ff, Ff, Ff, Ff, Ff, Ff, Ff, Ff, Ff] ?_
                      refine pZ (i := 12) (N := some 80) #[Ff, Tt, Tt, Ff, Ff, Tt, Tt, Tt, Ff, Ff, Tt, Tt, Tt, Ff, Ff, Ff, Ff, Ff, Ff, Ff, Ff, Ff, Ff] ?_
                      refine pZ (i := 15) (N := some 83) #[Ff, Tt, Tt, Ff, Ff, Tt, Tt, Tt, Ff, Ff, Tt, Tt, Tt, Ff, Ff, Tt, Ff, Ff, Ff, Ff, Ff, Ff, Ff] ?_
                      refine pZ (i := 16) (N := some 84) #[Ff, Tt, Tt, Ff, Ff, Tt, Tt, Tt, Ff, Ff, Tt, Tt, Tt, Ff, Ff, Tt, Tt, Ff, Ff, Ff, Ff, Ff, Ff] ?_
                      refine pZ (i := 19) (N := some 87) #[Ff, Tt, Tt, Ff, Ff, Tt, Tt, Tt, Ff, Ff, Tt, Tt, Tt, Ff, Ff, Tt, Tt, Ff, Ff, Tt, Ff, Ff, Ff] ?_
                      refine tZ (i := 0) (N := some 68) #[Tt, Tt, Tt, Ff, Ff, Tt, Tt, Tt, Ff, Ff, Tt, Tt, Tt, Ff, Ff, Tt, Tt, Ff, Ff, Tt, Ff, Ff, Ff] ?_
                      refine tZ (i := 4) (N := some 72) #[Tt, Tt, Tt, Ff, Tt, Tt, Tt, Tt, Ff, Ff, Tt, Tt, Tt, Ff, Ff, Tt, Tt, Ff, Ff, Tt, Ff, Ff, Ff] ?_
                      refine tZ (i := 9) (N := some 77) #[Tt, Tt, Tt, Ff, Tt, Tt, Tt, Tt, Ff, Tt, Tt, Tt, Tt, Ff, Ff, Tt, Tt, Ff, Ff, Tt, Ff, Ff, Ff] ?_
                      refine tZ (i := 14) (N := some 82) #[Tt, Tt, Tt, Ff, Tt, Tt, Tt, Tt, Ff, Tt, Tt, Tt, Tt, Ff, Tt, Tt, Tt, Ff, Ff, Tt, Ff, Ff, Ff] ?_
                      refine one_ (i := 3) (N := some 71) #[Tt, Tt, Tt, Tt, Tt, Tt, Tt, Tt, Ff, Tt, Tt, Tt, Tt, Ff, Tt, Tt, Tt, Ff, Ff, Tt, Ff, Ff, Ff] rfl rfl (one_of HT_.out (by kernel_rfl)) (by decide) (fun K hK => ?_)
                      refine goes_ Try.func78 (by kernel_rfl) rfl #[.agg #[.int .i64 a0_0, .int .i64 a0_1, .slice A0_2 l0_2.length c0_2, .slice A0_3 l0_3.length c0_3], .bool false, .int .i64 (Int.tmod (rd x8_2 x11_2) a0_0), .int .i64 (wrap64 (Int.tdiv (rd x8_2 x11_2) a0_0))] (by rfl) rfl rfl ob_ ?_
                      with_reducible refine (spec_fiHas.calls k3 a0_0 a0_1 _ _ l0_2 _ _ l0_3 false (Int.tmod (rd x8_2 x11_2) a0_0) (wrap64 (Int.tdiv (rd x8_2 x11_2) a0_0)) t360 _ ?side1 ?side2 ?side3 ?side4 A29.out).mono ?_
                      (case side1 => exact kc_ (Kd.C_below HR0_2.out HB.out))
                      (case side2 => exact HC0_2.out)
                      (case side3 => exact kc_ (Kd.C_below HR0_3.out HB.out))
                      (case side4 => exact HC0_3.out)
                      rintro e w59 ⟨rfl, hb⟩
                      refine ⟨_, rfl, ?_⟩
                      have n0_ := Aside0.mk (Kd.R_below (kr_ HO_5.out) hb)
                      have n1_ := Aside0.mk (Kd.S_below (by (with_reducible repeat (first | apply Kd.S_alloc | apply Kd.S_drewN | apply Kd.S_drew)); exact HO_6.out) hb)
                      have n2_ := Aside0.mk (Kd.R_below (kr_ HO_8.out) hb)
                      have n3_ := Aside0.mk (Kd.R_below (kr_ HO_9.out) hb)
                      have n4_ := Aside0.mk (bb_ BK342.out hb)
                      have n5_ := Aside0.mk (below_step (bl1_ HB.out GE342.out) hb)
                      clear HO_5
                      clear HO_6
                      clear HO_8
                      clear HO_9
                      clear BK342
                      clear HB
                      have HO_5 := n0_
                      have HO_6 := n1_
                      have HO_8 := n2_
                      have HO_9 := n3_
                      have BK342 := n4_
                      have HB := n5_
                      clear n0_ n1_ n2_ n3_ n4_ n5_
                      (try clear hb)
                      (try clear hb2)
                      (try clear hk)
                      (try clear hi)
                      refine hK.out _ _ ⟨(blk_cell BK342.out 0).trans rfl, (blk_cell BK342.out 1).trans rfl, (blk_cell BK342.out 2).trans rfl, (blk_cell BK342.out 3).trans rfl⟩ (fun hHeld => ?_)
                      clear hK K
                      refine norm_ (a' := _) ap_ ?_
                      refine one_ (i := 8) (N := some 76) #[Tt, Tt, Tt, Tt, Tt, Tt, Tt, Tt, Tt, Tt, Tt, Tt, Tt, Ff, Tt, Tt, Tt, Ff, Ff, Tt, Ff, Ff, Ff] rfl rfl (one_of HT_.out (by kernel_rfl)) (by decide) (fun K hK => ?_)
                      refine goes_ Try.func78 (by kernel_rfl) rfl #[.agg #[.int .i64 a0_0, .int .i64 a0_1, .slice A0_2 l0_2.length c0_2, .slice A0_3 l0_3.length c0_3], .bool true, .int .i64 (wrap64 ((Int.tmod (rd x8_2 x11_2) a0_0) + 1)), .int .i64 (wrap64 (Int.tdiv (rd x8_2 x11_2) a0_0))] (by rfl) rfl rfl ob_ ?_
                      with_reducible refine (spec_fiHas.calls k3 a0_0 a0_1 _ _ l0_2 _ _ l0_3 true (wrap64 ((Int.tmod (rd x8_2 x11_2) a0_0) + 1)) (wrap64 (Int.tdiv (rd x8_2 x11_2) a0_0)) t361 _ ?side1 ?side2 ?side3 ?side4 A30.out).mono ?_
                      (case side1 => exact kc_ (Kd.C_below HR0_2.out HB.out))
                      (case side2 => exact HC0_2.out)
                      (case side3 => exact kc_ (Kd.C_below HR0_3.out HB.out))
                      (case side4 => exact HC0_3.out)
                      rintro e w60 ⟨rfl, hb⟩
                      refine ⟨_, rfl, ?_⟩
                      have n0_ := Aside0.mk (Kd.R_below (kr_ HO_5.out) hb)
                      have n1_ := Aside0.mk (Kd.S_below (by (with_reducible repeat (first | apply Kd.S_alloc | apply Kd.S_drewN | apply Kd.S_drew)); exact HO_6.out) hb)
                      have n2_ := Aside0.mk (Kd.R_below (kr_ HO_8.out) hb)
                      have n3_ := Aside0.mk (Kd.R_below (kr_ HO_9.out) hb)
                      have n4_ := Aside0.mk (bb_ BK342.out hb)
                      have n5_ := Aside0.mk (below_step (bl1_ HB.out GE342.out) hb)
                      clear HO_5
                      clear HO_6
                      clear HO_8
                      clear HO_9
                      clear BK342
                      clear HB
                      have HO_5 := n0_
                      have HO_6 := n1_
                      have HO_8 := n2_
                      have HO_9 := n3_
                      have BK342 := n4_
                      have HB := n5_
                      clear n0_ n1_ n2_ n3_ n4_ n5_
                      (try clear hb)
                      (try clear hb2)
                      (try clear hk)
                      (try clear hi)
                      refine hK.out _ _ ⟨(blk_cell BK342.out 0).trans rfl, (blk_cell BK342.out 1).trans rfl, (blk_cell BK342.out 2).trans rfl, (blk_cell BK342.out 3).trans rfl⟩ (fun hHeld => ?_)
                      clear hK K
                      refine norm_ (a' := _) ap_ ?_
                      refine one_ (i := 13) (N := some 81) #[Tt, Tt, Tt, Tt, Tt, Tt, Tt, Tt, Tt, Tt, Tt, Tt, Tt, Tt, Tt, Tt, Tt, Ff, Ff, Tt, Ff, Ff, Ff] rfl rfl (one_of HT_.out (by kernel_rfl)) (by decide) (fun K hK => ?_)
                      refine goes_ Try.func78 (by kernel_rfl) rfl #[.agg #[.int .i64 a0_0, .int .i64 a0_1, .slice A0_2 l0_2.length c0_2, .slice A0_3 l0_3.length c0_3], .bool false, .int .i64 (Int.tmod (rd x8_2 x11_2) a0_0), .int .i64 (wrap64 ((wrap64 (Int.tdiv (rd x8_2 x11_2) a0_0)) + 1))] (by rfl) rfl rfl ob_ ?_
                      with_reducible refine (spec_fiHas.calls k3 a0_0 a0_1 _ _ l0_2 _ _ l0_3 false (Int.tmod (rd x8_2 x11_2) a0_0) (wrap64 ((wrap64 (Int.tdiv (rd x8_2 x11_2) a0_0)) + 1)) t362 _ ?side1 ?side2 ?side3 ?side4 A31.out).mono ?_
                      (case side1 => exact kc_ (Kd.C_below HR0_2.out HB.out))
                      (case side2 => exact HC0_2.out)
                      (case side3 => exact kc_ (Kd.C_below HR0_3.out HB.out))
                      (case side4 => exact HC0_3.out)
                      rintro e w61 ⟨rfl, hb⟩
                      refine ⟨_, rfl, ?_⟩
                      have n0_ := Aside0.mk (Kd.R_below (kr_ HO_5.out) hb)
                      have n1_ := Aside0.mk (Kd.S_below (by (with_reducible repeat (first | apply Kd.S_alloc | apply Kd.S_drewN | apply Kd.S_drew)); exact HO_6.out) hb)
                      have n2_ := Aside0.mk (Kd.R_below (kr_ HO_8.out) hb)
                      have n3_ := Aside0.mk (Kd.R_below (kr_ HO_9.out) hb)
                      have n4_ := Aside0.mk (bb_ BK342.out hb)
                      have n5_ := Aside0.mk (below_step (bl1_ HB.out GE342.out) hb)
                      clear HO_5
                      clear HO_6
                      clear HO_8
                      clear HO_9
                      clear BK342
                      clear HB
                      have HO_5 := n0_
                      have HO_6 := n1_
                      have HO_8 := n2_
                      have HO_9 := n3_
                      have BK342 := n4_
                      have HB := n5_
                      clear n0_ n1_ n2_ n3_ n4_ n5_
                      (try clear hb)
                      (try clear hb2)
                      (try clear hk)
                      (try clear hi)
                      refine hK.out _ _ ⟨(blk_cell BK342.out 0).trans rfl, (blk_cell BK342.out 1).trans rfl, (blk_cell BK342.out 2).trans rfl, (blk_cell BK342.out 3).trans rfl⟩ (fun hHeld => ?_)
                      clear hK K
                      refine norm_ (a' := _) ap_ ?_
                      refine one_ (i := 17) (N := some 85) #[Tt, Tt, Tt, Tt, Tt, Tt, Tt, Tt, Tt, Tt, Tt, Tt, Tt, Tt, Tt, Tt, Tt, Tt, Ff, Tt, Ff, Ff, Ff] rfl rfl (one_of HT_.out (by kernel_rfl)) (by decide) (fun K hK => ?_)
                      refine goes_ Try.func78 (by kernel_rfl) rfl #[.agg #[.int .i64 a0_0, .int .i64 a0_1, .slice A0_2 l0_2.length c0_2, .slice A0_3 l0_3.length c0_3], .bool true, .int .i64 (Int.tmod (rd x8_2 x11_2) a0_0), .int .i64 (wrap64 (Int.tdiv (rd x8_2 x11_2) a0_0))] (by rfl) rfl rfl ob_ ?_
                      with_reducible refine (spec_fiHas.calls k3 a0_0 a0_1 _ _ l0_2 _ _ l0_3 true (Int.tmod (rd x8_2 x11_2) a0_0) (wrap64 (Int.tdiv (rd x8_2 x11_2) a0_0)) t363 _ ?side1 ?side2 ?side3 ?side4 A32.out).mono ?_
                      (case side1 => exact kc_ (Kd.C_below HR0_2.out HB.out))
                      (case side2 => exact HC0_2.out)
                      (case side3 => exact kc_ (Kd.C_below HR0_3.out HB.out))
                      (case side4 => exact HC0_3.out)
                      rintro e w62 ⟨rfl, hb⟩
                      refine ⟨_, rfl, ?_⟩
                      have n0_ := Aside0.mk (Kd.R_below (kr_ HO_5.out) hb)
                      have n1_ := Aside0.mk (Kd.S_below (by (with_reducible repeat (first | apply Kd.S_alloc | apply Kd.S_drewN | apply Kd.S_drew)); exact HO_6.out) hb)
                      have n2_ := Aside0.mk (Kd.R_below (kr_ HO_8.out) hb)
                      have n3_ := Aside0.mk (Kd.R_below (kr_ HO_9.out) hb)
                      have n4_ := Aside0.mk (bb_ BK342.out hb)
                      have n5_ := Aside0.mk (below_step (bl1_ HB.out GE342.out) hb)
                      clear HO_5
                      clear HO_6
                      clear HO_8
                      clear HO_9
                      clear BK342
                      clear HB
                      have HO_5 := n0_
                      have HO_6 := n1_
                      have HO_8 := n2_
                      have HO_9 := n3_
                      have BK342 := n4_
                      have HB := n5_
                      clear n0_ n1_ n2_ n3_ n4_ n5_
                      (try clear hb)
                      (try clear hb2)
                      (try clear hk)
                      (try clear hi)
                      refine hK.out _ _ ⟨(blk_cell BK342.out 0).trans rfl, (blk_cell BK342.out 1).trans rfl, (blk_cell BK342.out 2).trans rfl, (blk_cell BK342.out 3).trans rfl⟩ (fun hHeld => ?_)
                      clear hK K
                      refine norm_ (a' := _) ap_ ?_
                      refine one_ (i := 18) (N := some 86) #[Tt, Tt, Tt, Tt, Tt, Tt, Tt, Tt, Tt, Tt, Tt, Tt, Tt, Tt, Tt, Tt, Tt, Tt, Tt, Tt, Ff, Ff, Ff] rfl rfl (one_of HT_.out (by kernel_rfl)) (by decide) (fun K hK => ?_)
                      refine Kd.R_lit_step Kd.bool _ 4 ?hg (N := 86) ?hd (xs := ([t360, t361, t362, t363] : List Bool)) (inner := [.bool t360, .bool t361, .bool t362, .bool t363]) (ok := fun _ => True) (okp := fun _ => True) ?hr ?hp (fun _ hk => hk) trivial (Below.refl _ _) (Nat.le_refl _) (by simp) ?_; (case hd => rfl); (case hg => rfl); (case hr => first | (go_simp; done) | (go_simp; rfl)); (case hp => exact (Reps.one (show Kd.M Kd.bool _ _ _ t360 [.bool t360] from rfl) (Reps.one (show Kd.M Kd.bool _ _ _ t361 [.bool t361] from rfl) (Reps.one (show Kd.M Kd.bool _ _ _ t362 [.bool t362] from rfl) (Reps.one (show Kd.M Kd.bool _ _ _ t363 [.bool t363] from rfl) (Reps.none _ _))))))
                      intro v365 w63 ho64 hb hg_ hnew_
                      clear hg_ hnew_
                      (first | rw [← Ny364.out] at ho64 | (simp only [Int.reduceToNat] at ho64; rw [← Ny364.out] at ho64))
                      have n0_ := Aside0.mk (Kd.R_elder' (kr_ HO_5.out) (Kd.R_base ho64) hb)
                      have n1_ := Aside0.mk (Kd.S_below (by (with_reducible repeat (first | apply Kd.S_alloc | apply Kd.S_drewN | apply Kd.S_drew)); exact HO_6.out) hb)
                      have n2_ := Aside0.mk (Kd.R_below (kr_ HO_8.out) hb)
                      have n3_ := Aside0.mk (Kd.R_below (kr_ HO_9.out) hb)
                      have n4_ := Aside0.mk (Kd.R_lower (Kd.R_new' ho64 (Kd.R_lt (kr_ HO_5.out))) (below_size (bl1_ HB.out GE342.out)))
                      have n5_ := Aside0.mk (bb_ BK342.out hb)
                      have n6_ := Aside0.mk (below_step (bl1_ HB.out GE342.out) hb)
                      clear HO_5
                      clear HO_6
                      clear HO_8
                      clear HO_9
                      clear BK342
                      clear HB
                      have HO_5 := n0_
                      have HO_6 := n1_
                      have HO_8 := n2_
                      have HO_9 := n3_
                      have HO366 := n4_
                      have BK342 := n5_
                      have HB := n6_
                      clear n0_ n1_ n2_ n3_ n4_ n5_ n6_
                      clear hb ho64
                      obtain ⟨Ao65, co65, eo65⟩ := Kd.R_slice HO366.out
                      subst eo65
                      obtain ⟨ado65, fo65, _⟩ := Kd.at_bool (Kd.R_reads' HO366.out).2.2 0 (by decide) (by rw [Ny364.out]; simp)
                      cases fo65
                      refine hK.out _ _ ⟨(blk_cell BK342.out 0).trans rfl, (blk_cell BK342.out 1).trans rfl, (blk_cell BK342.out 2).trans rfl, (blk_cell BK342.out 3).trans rfl⟩ (fun hHeld => ?_)
                      clear hK K
                      refine norm_ (a' := _) ap_ ?_
                      refine pZ (i := 20) (N := some 88) #[Tt, Tt, Tt, Tt, Tt, Tt, Tt, Tt, Tt, Tt, Tt, Tt, Tt, Tt, Tt, Tt, Tt, Tt, Tt, Tt, Tt, Ff, Ff] ?_
                      refine one_ (i := 21) (N := some 89) #[Tt, Tt, Tt, Tt, Tt, Tt, Tt, Tt, Tt, Tt, Tt, Tt, Tt, Tt, Tt, Tt, Tt, Tt, Tt, Tt, Tt, Tt, Ff] rfl rfl (one_of HT_.out (by kernel_rfl)) (by decide) (fun K hK => ?_)
                      (have p367 : 0 ≤ (x14_3 : Int) := of_decide_eq_true as_; have q367 : x14_3 < (y364.length : Int) := of_decide_eq_true as_; obtain ⟨ad367, e367, hx367_0⟩ := Kd.at_bool (Kd.R_reads' HO366.out).2.2 x14_3 p367 q367; obtain rfl : ado65 = ad367 := (by injection e367)); (try rw [← Nbq37.out] at hx367_0)
                      refine value_ (w1 := ?_) (v := ?_) (by rfl) rfl ?_ ?_
                      rotate_left 2
                      ·go_simp
                       constructor
                       ·rfl
                       ·rfl
                      clear hx367_0
                      refine hK.out _ _ ⟨(blk_cell BK342.out 0).trans rfl, (blk_cell BK342.out 1).trans rfl, (blk_cell BK342.out 2).trans rfl, (blk_cell BK342.out 3).trans rfl⟩ (fun hHeld => ?_)
                      clear hK K
                      refine norm_ (a' := _) ap_ ?_
                      refine pZ (i := 22) (N := some 15) #[Tt, Tt, Tt, Tt, Tt, Tt, Tt, Tt, Tt, Tt, Tt, Tt, Tt, Tt, Tt, Tt, Tt, Tt, Tt, Tt, Tt, Tt, Tt] ?_
                      refine done_ (done_of HT_.out (by kernel_rfl)) ?_
                      try go_wp2
                      have pi371 : (0 ≤ (x14_3 : Int)) = True := eq_true (of_decide_eq_true as_)
                      have qi371 : (x14_3 < (y368.length : Int)) = True := eq_true (of_decide_eq_true as_)
                      have pi375 : (0 ≤ (x14_3 : Int)) = True := eq_true (of_decide_eq_true as_)
                      have qi375 : (x14_3 < (y372.length : Int)) = True := eq_true (of_decide_eq_true as_)
                      have n0_ := Aside0.mk (Kd.R_drew HO_5.out)
                      have n1_ := Aside0.mk (Kd.S_drew HO_6.out)
                      have n2_ := Aside0.mk (Kd.R_drew HO_8.out)
                      have n3_ := Aside0.mk (Kd.R_drew HO_9.out)
                      have n4_ := Aside0.mk (Kd.R_drew HO366.out)
                      have n5_ := Aside0.mk (blk_drew BK342.out)
                      have n6_ := Aside0.mk (below_drew1 HB.out)
                      clear HO_5
                      clear HO_6
                      clear HO_8
                      clear HO_9
                      clear HO366
                      clear BK342
                      clear HB
                      have HO_5 := n0_
                      have HO_6 := n1_
                      have HO_8 := n2_
                      have HO_9 := n3_
                      have HO366 := n4_
                      have BK342 := n5_
                      have HB := n6_
                      clear n0_ n1_ n2_ n3_ n4_ n5_ n6_
                      refine start_ (n := 14) (S := fun w' => True) (ds := []) #[Ff, Ff, Ff, Ff, Ff, Ff, Ff, Ff, Ff, Ff, Ff, Ff, Ff, Ff] (by kernel_rfl) rfl rfl trivial (fun hHeld => ?_); refine with_tabW spec_liRegions.tab21 spec_liRegions.bits21 (fun HT_ HW_ => ?_)
                      generalize w63.drew = w66 at HO_5 HO_6 HO_8 HO_9 HO366 BK342 HB hHeld ⊢
                      refine pZ (i := 0) (N := some 90) #[Tt, Ff, Ff, Ff, Ff, Ff, Ff, Ff, Ff, Ff, Ff, Ff, Ff, Ff] ?_
                      refine pZ (i := 2) (N := some 92) #[Tt, Ff, Tt, Ff, Ff, Ff, Ff, Ff, Ff, Ff, Ff, Ff, Ff, Ff] ?_
                      refine pZ (i := 6) (N := some 96) #[Tt, Ff, Tt, Ff, Ff, Ff, Tt, Ff, Ff, Ff, Ff, Ff, Ff, Ff] ?_
                      refine pZ (i := 8) (N := some 98) #[Tt, Ff, Tt, Ff, Ff, Ff, Tt, Ff, Tt, Ff, Ff, Ff, Ff, Ff] ?_
                      refine inv_at [1, 3, 4, 5, 7, 9, 10, 11, 12, 13] (fun a0_ b a w' => ∃ (v369 : Value) (adz_v369 : Addr) (v373 : Value) (adz_v373 : Addr) (m3_ : Value) (m9_ : Value), a = putSel a0_ b [(1, 91, v369), (3, 93, m3_), (4, 94, .int .i64 (rd y368 x14_3)), (5, 95, .int .i64 (wrap64 ((Int.tmod (rd x8_2 x11_2) a0_0) + (rd y368 x14_3)))), (7, 97, v373), (9, 99, m9_), (10, 100, .int .i64 (rd y372 x14_3)), (11, 101, .int .i64 (wrap64 ((wrap64 (Int.tdiv (rd x8_2 x11_2) a0_0)) + (rd y372 x14_3)))), (12, 16, .int .i64 (wrap64 ((Int.tmod (rd x8_2 x11_2) a0_0) + (rd y368 x14_3)))), (13, 17, .int .i64 (wrap64 ((wrap64 (Int.tdiv (rd x8_2 x11_2) a0_0)) + (rd y372 x14_3))))] ∧ (Kd.R Kd.bool 4 w' w.heap.size (fun k_ => some k_ ≠ (.slice (some ⟨go15, 0, none⟩) x5_3.length co9 : Value).ownBlock) (.slice (some ado65) y364.length co65) y364) ∧ (Kd.R Kd.bool 4 w' w.heap.size (fun k_ => some k_ ≠ (.slice (some ado65) y364.length co65 : Value).ownBlock) (.slice (some ⟨go15, 0, none⟩) x5_3.length co9) x5_3) ∧ (Kd.S (Kd.slice 3 (Kd.int .i64)) 22 w' w.heap.size (fun k_ => some k_ ≠ (u8 : Value).ownBlock ∧ some k_ ≠ (v358 : Value).ownBlock) u6 x6_1) ∧ (Kd.R (Kd.int .i64) 3 w' w.heap.size (fun k_ => some k_ ≠ (v358 : Value).ownBlock) u8 x8_3) ∧ (Kd.R (Kd.int .i64) 3 w' w.heap.size (fun k_ => some k_ ≠ (u8 : Value).ownBlock) v358 t357) ∧ (w'.heap[gb342]? = some (.cells #[.int .i64 a0_0, .int .i64 a0_1, .slice A0_2 l0_2.length c0_2, .slice A0_3 l0_3.length c0_3] 28 (0, 0))) ∧ (Below w.heap.size w w') ∧ (b 1 = true → Kd.R (Kd.int .i64) 3 w' w.heap.size (fun k_ => some k_ ≠ (u8 : Value).ownBlock ∧ some k_ ≠ (v358 : Value).ownBlock) v369 y368) ∧ (b 1 = true → ∃ c_, (v369 : Value) = .slice (some adz_v369) y368.length c_) ∧ (b 7 = true → Kd.R (Kd.int .i64) 3 w' w.heap.size (fun k_ => some k_ ≠ (u8 : Value).ownBlock ∧ some k_ ≠ (v358 : Value).ownBlock) v373 y372) ∧ (b 7 = true → ∃ c_, (v373 : Value) = .slice (some adz_v373) y372.length c_) ∧ (b 3 = true → (m3_ : Value) = .pointer (some (adz_v369.add (x14_3).toNat))) ∧ (b 9 = true → (m9_ : Value) = .pointer (some (adz_v373.add (x14_3).toNat)))) HT_.out HW_.out (by kernel_rfl) (by kernel_rfl) ?_ ?_ ?_
                      ·exact ⟨.bool false, ⟨0, 0, none⟩, .bool false, ⟨0, 0, none⟩, .bool false, .bool false, by simp only [putSel, Bool.false_eq_true, if_false], (Kd.R_mono HO366.out (fun _ hk => by and_intros <;> first | exact hk | exact hk.1 | exact hk.2 | exact hk.1.1 | exact hk.1.2 | exact hk.2.1 | exact hk.2.2 | trivial)), (Kd.R_mono HO_5.out (fun _ hk => by and_intros <;> first | exact hk | exact hk.1 | exact hk.2 | exact hk.1.1 | exact hk.1.2 | exact hk.2.1 | exact hk.2.2 | trivial)), HO_6.out, HO_8.out, HO_9.out, BK342.out, HB.out, fun h_ => absurd h_ (by decide), fun h_ => absurd h_ (by decide), fun h_ => absurd h_ (by decide), fun h_ => absurd h_ (by decide), fun h_ => absurd h_ (by decide), fun h_ => absurd h_ (by decide)⟩
                      ·skip
                       clear BK342 HB HO366 HO_5 HO_6 HO_8 HO_9
                       refine steps_cons ?_ ?_
                       ·rintro b a w' ⟨v369, adz_v369, v373, adz_v373, m3_, m9_, ha, Q_HO366, Q_HO_5, Q_HO_6, Q_HO_8, Q_HO_9, Q_BK342, Q_HB, Q_HO370, Q_HA_HO370, Q_HO374, Q_HA_HO374, Q_X3_, Q_X9_⟩ hb_ hon hoff
                        refine ⟨_, rfl, fun K hK => ?_⟩
                        replace ha := Aside0.mk ha
                        have HO366 := Aside0.mk Q_HO366
                        have HO_5 := Aside0.mk Q_HO_5
                        have HO_6 := Aside0.mk Q_HO_6
                        have HO_8 := Aside0.mk Q_HO_8
                        have HO_9 := Aside0.mk Q_HO_9
                        have BK342 := Aside0.mk Q_BK342
                        have HB := Aside0.mk Q_HB
                        refine Kd.R_lit_step (Kd.int .i64) _ 3 ?hg (N := 91) ?hd (xs := ([0, 1, 0, (-1)] : List Int)) (inner := [.int .i64 0, .int .i64 1, .int .i64 0, .int .i64 (-1)]) (ok := fun _ => True) (okp := fun _ => True) ?hr ?hp (fun _ hk => hk) trivial (Below.refl _ _) (Nat.le_refl _) (by simp) ?_; (case hd => rfl); (case hg => rfl); (case hr => first | (go_simp; done) | (go_simp; rfl)); (case hp => exact (Reps.one (show Kd.M (Kd.int .i64) _ _ _ 0 [.int .i64 0] from rfl) (Reps.one (show Kd.M (Kd.int .i64) _ _ _ 1 [.int .i64 1] from rfl) (Reps.one (show Kd.M (Kd.int .i64) _ _ _ 0 [.int .i64 0] from rfl) (Reps.one (show Kd.M (Kd.int .i64) _ _ _ (-1) [.int .i64 (-1)] from rfl) (Reps.none _ _))))))
                        intro v369 w67 ho68 hb hg_ hnew_
                        clear hg_ hnew_
                        (first | rw [← Ny368.out] at ho68 | (simp only [Int.reduceToNat] at ho68; rw [← Ny368.out] at ho68))
                        have n0_ := Aside0.mk (Kd.R_below (kr_ HO_5.out) hb)
                        have n1_ := Aside0.mk (Kd.S_elder' (by (with_reducible repeat (first | apply Kd.S_alloc | apply Kd.S_drewN | apply Kd.S_drew)); exact HO_6.out) (Kd.R_base ho68) hb)
                        have n2_ := Aside0.mk (Kd.R_elder' (kr_ HO_8.out) (Kd.R_base ho68) hb)
                        have n3_ := Aside0.mk (Kd.R_elder' (kr_ HO_9.out) (Kd.R_base ho68) hb)
                        have n4_ := Aside0.mk (Kd.R_below (kr_ HO366.out) hb)
                        have n5_ := Aside0.mk (Kd.R_lower (Kd.R_new' (Kd.R_new' ho68 (Kd.R_lt (kr_ HO_8.out))) (Kd.R_lt (kr_ HO_9.out))) (below_size (bl1_ HB.out GE342.out)))
                        have n6_ := Aside0.mk (bb_ BK342.out hb)
                        have n7_ := Aside0.mk (below_step (bl1_ HB.out GE342.out) hb)
                        have z_HO374 := fun (h0_ : b 7 = true) => (show Kd.R (Kd.int .i64) 3 w67 w.heap.size (fun k_ => some k_ ≠ (u8 : Value).ownBlock ∧ some k_ ≠ (v358 : Value).ownBlock) v373 y372 from by first | exact (Kd.R_elder' (by (with_reducible repeat (first | apply Kd.R_alloc | apply Kd.R_drewN | apply Kd.R_drew)); exact (Q_HO374 h0_)) (Kd.R_base ho68) hb) | exact Kd.R_mono (Kd.R_elder' (by (with_reducible repeat (first | apply Kd.R_alloc | apply Kd.R_drewN | apply Kd.R_drew)); exact (Q_HO374 h0_)) (Kd.R_base ho68) hb) (fun _ h_ => by first | trivial | exact h_ | exact h_.1))
                        clear HO_5
                        clear HO_6
                        clear HO_8
                        clear HO_9
                        clear HO366
                        clear BK342
                        clear HB
                        have HO_5 := n0_
                        have HO_6 := n1_
                        have HO_8 := n2_
                        have HO_9 := n3_
                        have HO366 := n4_
                        have HO370 := n5_
                        have BK342 := n6_
                        have HB := n7_
                        clear n0_ n1_ n2_ n3_ n4_ n5_ n6_ n7_
                        clear hb ho68
                        obtain ⟨Ao69, co69, eo69⟩ := Kd.R_slice HO370.out
                        subst eo69
                        obtain ⟨ado69, fo69, _⟩ := Kd.at_int (Kd.R_reads' HO370.out).2.2 0 (by decide) (by rw [Ny368.out]; simp)
                        cases fo69
                        refine hK.out _ _ ⟨.slice (some ado69) y368.length co69, ado69, v373, adz_v373, m3_, m9_, (by rw [ha.out]; exact putSel_upk 0 hb_ rfl rfl rfl), (by (with_reducible repeat (first | apply Kd.R_alloc | apply Kd.R_drewN | apply Kd.R_drew)); exact Kd.R_mono HO366.out (fun _ hk => by and_intros <;> first | exact hk | exact hk.1 | exact hk.2 | exact hk.1.1 | exact hk.1.2 | exact hk.2.1 | exact hk.2.2 | trivial)), (by (with_reducible repeat (first | apply Kd.R_alloc | apply Kd.R_drewN | apply Kd.R_drew)); exact Kd.R_mono HO_5.out (fun _ hk => by and_intros <;> first | exact hk | exact hk.1 | exact hk.2 | exact hk.1.1 | exact hk.1.2 | exact hk.2.1 | exact hk.2.2 | trivial)), (by (with_reducible repeat (first | apply Kd.S_alloc | apply Kd.S_drewN | apply Kd.S_drew)); exact Kd.S_mono HO_6.out (fun _ hk => by and_intros <;> first | exact hk | exact hk.1 | exact hk.2 | exact hk.1.1 | exact hk.1.2 | exact hk.2.1 | exact hk.2.2 | trivial)), (by (with_reducible repeat (first | apply Kd.R_alloc | apply Kd.R_drewN | apply Kd.R_drew)); exact Kd.R_mono HO_8.out (fun _ hk => by and_intros <;> first | exact hk | exact hk.1 | exact hk.2 | exact hk.1.1 | exact hk.1.2 | exact hk.2.1 | exact hk.2.2 | trivial)), (by (with_reducible repeat (first | apply Kd.R_alloc | apply Kd.R_drewN | apply Kd.R_drew)); exact Kd.R_mono HO_9.out (fun _ hk => by and_intros <;> first | exact hk | exact hk.1 | exact hk.2 | exact hk.1.1 | exact hk.1.2 | exact hk.2.1 | exact hk.2.2 | trivial)), (bk_ BK342.out), (bl1_ HB.out GE342.out), fun _ => (by (with_reducible repeat (first | apply Kd.R_alloc | apply Kd.R_drewN | apply Kd.R_drew)); exact Kd.R_mono HO370.out (fun _ hk => by and_intros <;> first | exact hk | exact hk.1 | exact hk.2 | exact hk.1.1 | exact hk.1.2 | exact hk.2.1 | exact hk.2.2 | trivial)), fun _ => ⟨_, rfl⟩, z_HO374, Q_HA_HO374, fun h0_ => absurd ((hoff 3 (by kernel_rfl)).symm.trans h0_) (by decide), Q_X9_⟩
                       refine steps_cons ?_ ?_
                       ·rintro b a w' ⟨v369, adz_v369, v373, adz_v373, m3_, m9_, ha, Q_HO366, Q_HO_5, Q_HO_6, Q_HO_8, Q_HO_9, Q_BK342, Q_HB, Q_HO370, Q_HA_HO370, Q_HO374, Q_HA_HO374, Q_X3_, Q_X9_⟩ hb_ hon hoff
                        refine ⟨_, rfl, fun K hK => ?_⟩
                        have e91 : a.tmps[91]? = some (v369) := by rw [ha]; exact putSel_on (e := (1, 91, v369)) 0 rfl rfl (hon 1 (by kernel_rfl)) rfl
                        have e92 : a.tmps[92]? = some (.int .i64 x14_3) := by rw [ha]; exact (putSel_off rfl).trans rfl
                        replace ha := Aside0.mk ha
                        have HO366 := Aside0.mk Q_HO366
                        have HO_5 := Aside0.mk Q_HO_5
                        have HO_6 := Aside0.mk Q_HO_6
                        have HO_8 := Aside0.mk Q_HO_8
                        have HO_9 := Aside0.mk Q_HO_9
                        have BK342 := Aside0.mk Q_BK342
                        have HB := Aside0.mk Q_HB
                        have HO370 := Aside0.mk (Q_HO370 (hon 1 (by kernel_rfl)))
                        have HA_HO370 := Aside0.mk (Q_HA_HO370 (hon 1 (by kernel_rfl)))
                        obtain ⟨c_, hv_⟩ := HA_HO370.out
                        rw [hv_] at e91
                        refine value_ (w1 := w') (v := .pointer (some (adz_v369.add (x14_3).toNat))) (by rfl) rfl ?_ ?_
                        ·go_simp
                         (try simp only [i64_w])
                         try rfl
                        refine hK.out _ _ ⟨v369, adz_v369, v373, adz_v373, (.pointer (some (adz_v369.add (x14_3).toNat))), m9_, (by rw [ha.out]; exact putSel_upk 1 hb_ rfl rfl rfl), Q_HO366, Q_HO_5, Q_HO_6, Q_HO_8, Q_HO_9, Q_BK342, Q_HB, Q_HO370, Q_HA_HO370, Q_HO374, Q_HA_HO374, fun _ => rfl, Q_X9_⟩
                       refine steps_cons ?_ ?_
                       ·rintro b a w' ⟨v369, adz_v369, v373, adz_v373, m3_, m9_, ha, Q_HO366, Q_HO_5, Q_HO_6, Q_HO_8, Q_HO_9, Q_BK342, Q_HB, Q_HO370, Q_HA_HO370, Q_HO374, Q_HA_HO374, Q_X3_, Q_X9_⟩ hb_ hon hoff
                        refine ⟨_, rfl, fun K hK => ?_⟩
                        have e93 : a.tmps[93]? = some (m3_) := by rw [ha]; exact putSel_on (e := (3, 93, m3_)) 1 rfl rfl (hon 3 (by kernel_rfl)) rfl
                        rw [Q_X3_ (hon 3 (by kernel_rfl))] at e93
                        replace ha := Aside0.mk ha
                        have HO366 := Aside0.mk Q_HO366
                        have HO_5 := Aside0.mk Q_HO_5
                        have HO_6 := Aside0.mk Q_HO_6
                        have HO_8 := Aside0.mk Q_HO_8
                        have HO_9 := Aside0.mk Q_HO_9
                        have BK342 := Aside0.mk Q_BK342
                        have HB := Aside0.mk Q_HB
                        have HO370 := Aside0.mk (Q_HO370 (hon 1 (by kernel_rfl)))
                        have HA_HO370 := Aside0.mk (Q_HA_HO370 (hon 1 (by kernel_rfl)))
                        obtain ⟨c_, hv_⟩ := HA_HO370.out
                        have hF_ := HO370.out
                        rw [hv_] at hF_
                        obtain ⟨ad_, ea_, hx_⟩ := Kd.at_int (Kd.R_reads' hF_).2.2 x14_3 (of_eq_true pi371) (of_eq_true qi371)
                        cases ea_
                        refine value_ (w1 := w') (v := .int .i64 (rd y368 x14_3)) (by rfl) rfl ?_ ?_
                        ·go_simp
                         (try simp only [i64_w])
                         try rfl
                        refine hK.out _ _ ⟨v369, adz_v369, v373, adz_v373, m3_, m9_, (by rw [ha.out]; exact putSel_upk 2 hb_ rfl rfl rfl), Q_HO366, Q_HO_5, Q_HO_6, Q_HO_8, Q_HO_9, Q_BK342, Q_HB, Q_HO370, Q_HA_HO370, Q_HO374, Q_HA_HO374, Q_X3_, Q_X9_⟩
                       refine steps_cons ?_ ?_
                       ·rintro b a w' ⟨v369, adz_v369, v373, adz_v373, m3_, m9_, ha, Q_HO366, Q_HO_5, Q_HO_6, Q_HO_8, Q_HO_9, Q_BK342, Q_HB, Q_HO370, Q_HA_HO370, Q_HO374, Q_HA_HO374, Q_X3_, Q_X9_⟩ hb_ hon hoff
                        refine ⟨_, rfl, fun K hK => ?_⟩
                        have e90 : a.tmps[90]? = some (.int .i64 (Int.tmod (rd x8_2 x11_2) a0_0)) := by rw [ha]; exact (putSel_off rfl).trans rfl
                        have e94 : a.tmps[94]? = some (.int .i64 (rd y368 x14_3)) := by rw [ha]; exact putSel_on (e := (4, 94, .int .i64 (rd y368 x14_3))) 2 rfl rfl (hon 4 (by kernel_rfl)) rfl
                        replace ha := Aside0.mk ha
                        have HO366 := Aside0.mk Q_HO366
                        have HO_5 := Aside0.mk Q_HO_5
                        have HO_6 := Aside0.mk Q_HO_6
                        have HO_8 := Aside0.mk Q_HO_8
                        have HO_9 := Aside0.mk Q_HO_9
                        have BK342 := Aside0.mk Q_BK342
                        have HB := Aside0.mk Q_HB
                        have HO370 := Aside0.mk (Q_HO370 (hon 1 (by kernel_rfl)))
                        have HA_HO370 := Aside0.mk (Q_HA_HO370 (hon 1 (by kernel_rfl)))
                        refine value_ (w1 := w') (v := .int .i64 (wrap64 ((Int.tmod (rd x8_2 x11_2) a0_0) + (rd y368 x14_3)))) (by rfl) rfl ?_ ?_
                        ·go_simp
                         (try simp only [i64_w])
                         try rfl
                        refine hK.out _ _ ⟨v369, adz_v369, v373, adz_v373, m3_, m9_, (by rw [ha.out]; exact putSel_upk 3 hb_ rfl rfl rfl), Q_HO366, Q_HO_5, Q_HO_6, Q_HO_8, Q_HO_9, Q_BK342, Q_HB, Q_HO370, Q_HA_HO370, Q_HO374, Q_HA_HO374, Q_X3_, Q_X9_⟩
                       refine steps_cons ?_ ?_
                       ·rintro b a w' ⟨v369, adz_v369, v373, adz_v373, m3_, m9_, ha, Q_HO366, Q_HO_5, Q_HO_6, Q_HO_8, Q_HO_9, Q_BK342, Q_HB, Q_HO370, Q_HA_HO370, Q_HO374, Q_HA_HO374, Q_X3_, Q_X9_⟩ hb_ hon hoff
                        refine ⟨_, rfl, fun K hK => ?_⟩
                        replace ha := Aside0.mk ha
                        have HO366 := Aside0.mk Q_HO366
                        have HO_5 := Aside0.mk Q_HO_5
                        have HO_6 := Aside0.mk Q_HO_6
                        have HO_8 := Aside0.mk Q_HO_8
                        have HO_9 := Aside0.mk Q_HO_9
                        have BK342 := Aside0.mk Q_BK342
                        have HB := Aside0.mk Q_HB
                        refine Kd.R_lit_step (Kd.int .i64) _ 3 ?hg (N := 97) ?hd (xs := ([(-1), 0, 1, 0] : List Int)) (inner := [.int .i64 (-1), .int .i64 0, .int .i64 1, .int .i64 0]) (ok := fun _ => True) (okp := fun _ => True) ?hr ?hp (fun _ hk => hk) trivial (Below.refl _ _) (Nat.le_refl _) (by simp) ?_; (case hd => rfl); (case hg => rfl); (case hr => first | (go_simp; done) | (go_simp; rfl)); (case hp => exact (Reps.one (show Kd.M (Kd.int .i64) _ _ _ (-1) [.int .i64 (-1)] from rfl) (Reps.one (show Kd.M (Kd.int .i64) _ _ _ 0 [.int .i64 0] from rfl) (Reps.one (show Kd.M (Kd.int .i64) _ _ _ 1 [.int .i64 1] from rfl) (Reps.one (show Kd.M (Kd.int .i64) _ _ _ 0 [.int .i64 0] from rfl) (Reps.none _ _))))))
                        intro v373 w67 ho68 hb hg_ hnew_
                        clear hg_ hnew_
                        (first | rw [← Ny372.out] at ho68 | (simp only [Int.reduceToNat] at ho68; rw [← Ny372.out] at ho68))
                        have n0_ := Aside0.mk (Kd.R_below (kr_ HO_5.out) hb)
                        have n1_ := Aside0.mk (Kd.S_elder' (by (with_reducible repeat (first | apply Kd.S_alloc | apply Kd.S_drewN | apply Kd.S_drew)); exact HO_6.out) (Kd.R_base ho68) hb)
                        have n2_ := Aside0.mk (Kd.R_elder' (kr_ HO_8.out) (Kd.R_base ho68) hb)
                        have n3_ := Aside0.mk (Kd.R_elder' (kr_ HO_9.out) (Kd.R_base ho68) hb)
                        have n4_ := Aside0.mk (Kd.R_below (kr_ HO366.out) hb)
                        have n5_ := Aside0.mk (Kd.R_lower (Kd.R_new' (Kd.R_new' ho68 (Kd.R_lt (kr_ HO_8.out))) (Kd.R_lt (kr_ HO_9.out))) (below_size (bl1_ HB.out GE342.out)))
                        have n6_ := Aside0.mk (bb_ BK342.out hb)
                        have n7_ := Aside0.mk (below_step (bl1_ HB.out GE342.out) hb)
                        have z_HO370 := fun (h0_ : b 1 = true) => (show Kd.R (Kd.int .i64) 3 w67 w.heap.size (fun k_ => some k_ ≠ (u8 : Value).ownBlock ∧ some k_ ≠ (v358 : Value).ownBlock) v369 y368 from by first | exact (Kd.R_elder' (by (with_reducible repeat (first | apply Kd.R_alloc | apply Kd.R_drewN | apply Kd.R_drew)); exact (Q_HO370 h0_)) (Kd.R_base ho68) hb) | exact Kd.R_mono (Kd.R_elder' (by (with_reducible repeat (first | apply Kd.R_alloc | apply Kd.R_drewN | apply Kd.R_drew)); exact (Q_HO370 h0_)) (Kd.R_base ho68) hb) (fun _ h_ => by first | trivial | exact h_ | exact h_.1))
                        clear HO_5
                        clear HO_6
                        clear HO_8
                        clear HO_9
                        clear HO366
                        clear BK342
                        clear HB
                        have HO_5 := n0_
                        have HO_6 := n1_
                        have HO_8 := n2_
                        have HO_9 := n3_
                        have HO366 := n4_
                        have HO374 := n5_
                        have BK342 := n6_
                        have HB := n7_
                        clear n0_ n1_ n2_ n3_ n4_ n5_ n6_ n7_
                        clear hb ho68
                        obtain ⟨Ao69, co69, eo69⟩ := Kd.R_slice HO374.out
                        subst eo69
                        obtain ⟨ado69, fo69, _⟩ := Kd.at_int (Kd.R_reads' HO374.out).2.2 0 (by decide) (by rw [Ny372.out]; simp)
                        cases fo69
                        refine hK.out _ _ ⟨v369, adz_v369, .slice (some ado69) y372.length co69, ado69, m3_, m9_, (by rw [ha.out]; exact putSel_upk 4 hb_ rfl rfl rfl), (by (with_reducible repeat (first | apply Kd.R_alloc | apply Kd.R_drewN | apply Kd.R_drew)); exact Kd.R_mono HO366.out (fun _ hk => by and_intros <;> first | exact hk | exact hk.1 | exact hk.2 | exact hk.1.1 | exact hk.1.2 | exact hk.2.1 | exact hk.2.2 | trivial)), (by (with_reducible repeat (first | apply Kd.R_alloc | apply Kd.R_drewN | apply Kd.R_drew)); exact Kd.R_mono HO_5.out (fun _ hk => by and_intros <;> first | exact hk | exact hk.1 | exact hk.2 | exact hk.1.1 | exact hk.1.2 | exact hk.2.1 | exact hk.2.2 | trivial)), (by (with_reducible repeat (first | apply Kd.S_alloc | apply Kd.S_drewN | apply Kd.S_drew)); exact Kd.S_mono HO_6.out (fun _ hk => by and_intros <;> first | exact hk | exact hk.1 | exact hk.2 | exact hk.1.1 | exact hk.1.2 | exact hk.2.1 | exact hk.2.2 | trivial)), (by (with_reducible repeat (first | apply Kd.R_alloc | apply Kd.R_drewN | apply Kd.R_drew)); exact Kd.R_mono HO_8.out (fun _ hk => by and_intros <;> first | exact hk | exact hk.1 | exact hk.2 | exact hk.1.1 | exact hk.1.2 | exact hk.2.1 | exact hk.2.2 | trivial)), (by (with_reducible repeat (first | apply Kd.R_alloc | apply Kd.R_drewN | apply Kd.R_drew)); exact Kd.R_mono HO_9.out (fun _ hk => by and_intros <;> first | exact hk | exact hk.1 | exact hk.2 | exact hk.1.1 | exact hk.1.2 | exact hk.2.1 | exact hk.2.2 | trivial)), (bk_ BK342.out), (bl1_ HB.out GE342.out), z_HO370, Q_HA_HO370, fun _ => (by (with_reducible repeat (first | apply Kd.R_alloc | apply Kd.R_drewN | apply Kd.R_drew)); exact Kd.R_mono HO374.out (fun _ hk => by and_intros <;> first | exact hk | exact hk.1 | exact hk.2 | exact hk.1.1 | exact hk.1.2 | exact hk.2.1 | exact hk.2.2 | trivial)), fun _ => ⟨_, rfl⟩, Q_X3_, fun h0_ => absurd ((hoff 9 (by kernel_rfl)).symm.trans h0_) (by decide)⟩
                       refine steps_cons ?_ ?_
                       ·rintro b a w' ⟨v369, adz_v369, v373, adz_v373, m3_, m9_, ha, Q_HO366, Q_HO_5, Q_HO_6, Q_HO_8, Q_HO_9, Q_BK342, Q_HB, Q_HO370, Q_HA_HO370, Q_HO374, Q_HA_HO374, Q_X3_, Q_X9_⟩ hb_ hon hoff
                        refine ⟨_, rfl, fun K hK => ?_⟩
                        have e97 : a.tmps[97]? = some (v373) := by rw [ha]; exact putSel_on (e := (7, 97, v373)) 4 rfl rfl (hon 7 (by kernel_rfl)) rfl
                        have e98 : a.tmps[98]? = some (.int .i64 x14_3) := by rw [ha]; exact (putSel_off rfl).trans rfl
                        replace ha := Aside0.mk ha
                        have HO366 := Aside0.mk Q_HO366
                        have HO_5 := Aside0.mk Q_HO_5
                        have HO_6 := Aside0.mk Q_HO_6
                        have HO_8 := Aside0.mk Q_HO_8
                        have HO_9 := Aside0.mk Q_HO_9
                        have BK342 := Aside0.mk Q_BK342
                        have HB := Aside0.mk Q_HB
                        have HO374 := Aside0.mk (Q_HO374 (hon 7 (by kernel_rfl)))
                        have HA_HO374 := Aside0.mk (Q_HA_HO374 (hon 7 (by kernel_rfl)))
                        obtain ⟨c_, hv_⟩ := HA_HO374.out
                        rw [hv_] at e97
                        refine value_ (w1 := w') (v := .pointer (some (adz_v373.add (x14_3).toNat))) (by rfl) rfl ?_ ?_
                        ·go_simp
                         (try simp only [i64_w])
                         try rfl
                        refine hK.out _ _ ⟨v369, adz_v369, v373, adz_v373, m3_, (.pointer (some (adz_v373.add (x14_3).toNat))), (by rw [ha.out]; exact putSel_upk 5 hb_ rfl rfl rfl), Q_HO366, Q_HO_5, Q_HO_6, Q_HO_8, Q_HO_9, Q_BK342, Q_HB, Q_HO370, Q_HA_HO370, Q_HO374, Q_HA_HO374, Q_X3_, fun _ => rfl⟩
                       refine steps_cons ?_ ?_
                       ·rintro b a w' ⟨v369, adz_v369, v373, adz_v373, m3_, m9_, ha, Q_HO366, Q_HO_5, Q_HO_6, Q_HO_8, Q_HO_9, Q_BK342, Q_HB, Q_HO370, Q_HA_HO370, Q_HO374, Q_HA_HO374, Q_X3_, Q_X9_⟩ hb_ hon hoff
                        refine ⟨_, rfl, fun K hK => ?_⟩
                        have e99 : a.tmps[99]? = some (m9_) := by rw [ha]; exact putSel_on (e := (9, 99, m9_)) 5 rfl rfl (hon 9 (by kernel_rfl)) rfl
                        rw [Q_X9_ (hon 9 (by kernel_rfl))] at e99
                        replace ha := Aside0.mk ha
                        have HO366 := Aside0.mk Q_HO366
                        have HO_5 := Aside0.mk Q_HO_5
                        have HO_6 := Aside0.mk Q_HO_6
                        have HO_8 := Aside0.mk Q_HO_8
                        have HO_9 := Aside0.mk Q_HO_9
                        have BK342 := Aside0.mk Q_BK342
                        have HB := Aside0.mk Q_HB
                        have HO374 := Aside0.mk (Q_HO374 (hon 7 (by kernel_rfl)))
                        have HA_HO374 := Aside0.mk (Q_HA_HO374 (hon 7 (by kernel_rfl)))
                        obtain ⟨c_, hv_⟩ := HA_HO374.out
                        have hF_ := HO374.out
                        rw [hv_] at hF_
                        obtain ⟨ad_, ea_, hx_⟩ := Kd.at_int (Kd.R_reads' hF_).2.2 x14_3 (of_eq_true pi375) (of_eq_true qi375)
                        cases ea_
                        refine value_ (w1 := w') (v := .int .i64 (rd y372 x14_3)) (by rfl) rfl ?_ ?_
                        ·go_simp
                         (try simp only [i64_w])
                         try rfl
                        refine hK.out _ _ ⟨v369, adz_v369, v373, adz_v373, m3_, m9_, (by rw [ha.out]; exact putSel_upk 6 hb_ rfl rfl rfl), Q_HO366, Q_HO_5, Q_HO_6, Q_HO_8, Q_HO_9, Q_BK342, Q_HB, Q_HO370, Q_HA_HO370, Q_HO374, Q_HA_HO374, Q_X3_, Q_X9_⟩
                       refine steps_cons ?_ ?_
                       ·rintro b a w' ⟨v369, adz_v369, v373, adz_v373, m3_, m9_, ha, Q_HO366, Q_HO_5, Q_HO_6, Q_HO_8, Q_HO_9, Q_BK342, Q_HB, Q_HO370, Q_HA_HO370, Q_HO374, Q_HA_HO374, Q_X3_, Q_X9_⟩ hb_ hon hoff
                        refine ⟨_, rfl, fun K hK => ?_⟩
                        have e96 : a.tmps[96]? = some (.int .i64 (wrap64 (Int.tdiv (rd x8_2 x11_2) a0_0))) := by rw [ha]; exact (putSel_off rfl).trans rfl
                        have e100 : a.tmps[100]? = some (.int .i64 (rd y372 x14_3)) := by rw [ha]; exact putSel_on (e := (10, 100, .int .i64 (rd y372 x14_3))) 6 rfl rfl (hon 10 (by kernel_rfl)) rfl
                        replace ha := Aside0.mk ha
                        have HO366 := Aside0.mk Q_HO366
                        have HO_5 := Aside0.mk Q_HO_5
                        have HO_6 := Aside0.mk Q_HO_6
                        have HO_8 := Aside0.mk Q_HO_8
                        have HO_9 := Aside0.mk Q_HO_9
                        have BK342 := Aside0.mk Q_BK342
                        have HB := Aside0.mk Q_HB
                        have HO374 := Aside0.mk (Q_HO374 (hon 7 (by kernel_rfl)))
                        have HA_HO374 := Aside0.mk (Q_HA_HO374 (hon 7 (by kernel_rfl)))
                        refine value_ (w1 := w') (v := .int .i64 (wrap64 ((wrap64 (Int.tdiv (rd x8_2 x11_2) a0_0)) + (rd y372 x14_3)))) (by rfl) rfl ?_ ?_
                        ·go_simp
                         (try simp only [i64_w])
                         try rfl
                        refine hK.out _ _ ⟨v369, adz_v369, v373, adz_v373, m3_, m9_, (by rw [ha.out]; exact putSel_upk 7 hb_ rfl rfl rfl), Q_HO366, Q_HO_5, Q_HO_6, Q_HO_8, Q_HO_9, Q_BK342, Q_HB, Q_HO370, Q_HA_HO370, Q_HO374, Q_HA_HO374, Q_X3_, Q_X9_⟩
                       refine steps_cons ?_ ?_
                       ·rintro b a w' ⟨v369, adz_v369, v373, adz_v373, m3_, m9_, ha, Q_HO366, Q_HO_5, Q_HO_6, Q_HO_8, Q_HO_9, Q_BK342, Q_HB, Q_HO370, Q_HA_HO370, Q_HO374, Q_HA_HO374, Q_X3_, Q_X9_⟩ hb_ hon hoff
                        refine ⟨_, rfl, fun K hK => ?_⟩
                        have e95 : a.tmps[95]? = some (.int .i64 (wrap64 ((Int.tmod (rd x8_2 x11_2) a0_0) + (rd y368 x14_3)))) := by rw [ha]; exact putSel_on (e := (5, 95, .int .i64 (wrap64 ((Int.tmod (rd x8_2 x11_2) a0_0) + (rd y368 x14_3))))) 3 rfl rfl (hon 5 (by kernel_rfl)) rfl
                        replace ha := Aside0.mk ha
                        have HO366 := Aside0.mk Q_HO366
                        have HO_5 := Aside0.mk Q_HO_5
                        have HO_6 := Aside0.mk Q_HO_6
                        have HO_8 := Aside0.mk Q_HO_8
                        have HO_9 := Aside0.mk Q_HO_9
                        have BK342 := Aside0.mk Q_BK342
                        have HB := Aside0.mk Q_HB
                        have HO370 := Aside0.mk (Q_HO370 (hon 1 (by kernel_rfl)))
                        have HA_HO370 := Aside0.mk (Q_HA_HO370 (hon 1 (by kernel_rfl)))
                        refine value_ (w1 := w') (v := .int .i64 (wrap64 ((Int.tmod (rd x8_2 x11_2) a0_0) + (rd y368 x14_3)))) (by rfl) rfl ?_ ?_
                        ·go_simp
                         (try simp only [i64_w])
                         try rfl
                        refine hK.out _ _ ⟨v369, adz_v369, v373, adz_v373, m3_, m9_, (by rw [ha.out]; exact putSel_upk 8 hb_ rfl rfl rfl), Q_HO366, Q_HO_5, Q_HO_6, Q_HO_8, Q_HO_9, Q_BK342, Q_HB, Q_HO370, Q_HA_HO370, Q_HO374, Q_HA_HO374, Q_X3_, Q_X9_⟩
                       refine steps_cons ?_ ?_
                       ·rintro b a w' ⟨v369, adz_v369, v373, adz_v373, m3_, m9_, ha, Q_HO366, Q_HO_5, Q_HO_6, Q_HO_8, Q_HO_9, Q_BK342, Q_HB, Q_HO370, Q_HA_HO370, Q_HO374, Q_HA_HO374, Q_X3_, Q_X9_⟩ hb_ hon hoff
                        refine ⟨_, rfl, fun K hK => ?_⟩
                        have e101 : a.tmps[101]? = some (.int .i64 (wrap64 ((wrap64 (Int.tdiv (rd x8_2 x11_2) a0_0)) + (rd y372 x14_3)))) := by rw [ha]; exact putSel_on (e := (11, 101, .int .i64 (wrap64 ((wrap64 (Int.tdiv (rd x8_2 x11_2) a0_0)) + (rd y372 x14_3))))) 7 rfl rfl (hon 11 (by kernel_rfl)) rfl
                        replace ha := Aside0.mk ha
                        have HO366 := Aside0.mk Q_HO366
                        have HO_5 := Aside0.mk Q_HO_5
                        have HO_6 := Aside0.mk Q_HO_6
                        have HO_8 := Aside0.mk Q_HO_8
                        have HO_9 := Aside0.mk Q_HO_9
                        have BK342 := Aside0.mk Q_BK342
                        have HB := Aside0.mk Q_HB
                        have HO370 := Aside0.mk (Q_HO370 (hon 1 (by kernel_rfl)))
                        have HA_HO370 := Aside0.mk (Q_HA_HO370 (hon 1 (by kernel_rfl)))
                        have HO374 := Aside0.mk (Q_HO374 (hon 7 (by kernel_rfl)))
                        have HA_HO374 := Aside0.mk (Q_HA_HO374 (hon 7 (by kernel_rfl)))
                        refine value_ (w1 := w') (v := .int .i64 (wrap64 ((wrap64 (Int.tdiv (rd x8_2 x11_2) a0_0)) + (rd y372 x14_3)))) (by rfl) rfl ?_ ?_
                        ·go_simp
                         (try simp only [i64_w])
                         try rfl
                        refine hK.out _ _ ⟨v369, adz_v369, v373, adz_v373, m3_, m9_, (by rw [ha.out]; exact putSel_upk 9 hb_ rfl rfl rfl), Q_HO366, Q_HO_5, Q_HO_6, Q_HO_8, Q_HO_9, Q_BK342, Q_HB, Q_HO370, Q_HA_HO370, Q_HO374, Q_HA_HO374, Q_X3_, Q_X9_⟩
                       exact steps_nil
                      rintro b a w73 hall ⟨v369, adz_v369, v373, adz_v373, m3_, m9_, ha, Q_HO366, Q_HO_5, Q_HO_6, Q_HO_8, Q_HO_9, Q_BK342, Q_HB, Q_HO370, Q_HA_HO370, Q_HO374, Q_HA_HO374, Q_X3_, Q_X9_⟩
                      clear BK342 HB HO366 HO_5 HO_6 HO_8 HO_9
                      have hb1_ := hall 1 (by kernel_rfl)
                      have hb3_ := hall 3 (by kernel_rfl)
                      have hb4_ := hall 4 (by kernel_rfl)
                      have hb5_ := hall 5 (by kernel_rfl)
                      have hb7_ := hall 7 (by kernel_rfl)
                      have hb9_ := hall 9 (by kernel_rfl)
                      have hb10_ := hall 10 (by kernel_rfl)
                      have hb11_ := hall 11 (by kernel_rfl)
                      have hb12_ := hall 12 (by kernel_rfl)
                      have hb13_ := hall 13 (by kernel_rfl)
                      subst ha
                      obtain rfl := Q_X3_ hb3_
                      obtain rfl := Q_X9_ hb9_
                      simp only [putSel, hb1_, hb3_, hb4_, hb5_, hb7_, hb9_, hb10_, hb11_, hb12_, hb13_, if_true, Act.put, List.setIfInBounds_toArray, List.set_cons_zero, List.set_cons_succ]
                      have HO366 := Aside0.mk Q_HO366
                      clear Q_HO366
                      have HO_5 := Aside0.mk Q_HO_5
                      clear Q_HO_5
                      have HO_6 := Aside0.mk Q_HO_6
                      clear Q_HO_6
                      have HO_8 := Aside0.mk Q_HO_8
                      clear Q_HO_8
                      have HO_9 := Aside0.mk Q_HO_9
                      clear Q_HO_9
                      have BK342 := Aside0.mk Q_BK342
                      clear Q_BK342
                      have HB := Aside0.mk Q_HB
                      clear Q_HB
                      have HO370 := Aside0.mk (Q_HO370 hb1_)
                      clear Q_HO370
                      have HA_HO370 := Aside0.mk (Q_HA_HO370 hb1_)
                      clear Q_HA_HO370
                      have HO374 := Aside0.mk (Q_HO374 hb7_)
                      clear Q_HO374
                      have HA_HO374 := Aside0.mk (Q_HA_HO374 hb7_)
                      clear Q_HA_HO374
                      clear hall hb1_ hb3_ hb4_ hb5_ hb7_ hb9_ hb10_ hb11_ hb12_ hb13_
                      obtain ⟨co74, eo74⟩ := HA_HO370.out
                      clear HA_HO370
                      subst eo74
                      obtain ⟨co75, eo75⟩ := HA_HO374.out
                      clear HA_HO374
                      subst eo75
                      go_upto_region 23 with (fail)
                      go_cut [104] (fun v104 wc => ∃ (kq : Nat) (x104_56 : Bool), v104 = .bool x104_56 ∧ Aside0 (spec_liRegions.j3 kq a0_0 a0_1 x5_3 x6_1 x8_3 t357 x10_3 x11_2 (Int.tmod (rd x8_2 x11_2) a0_0) (wrap64 (Int.tdiv (rd x8_2 x11_2) a0_0)) x14_3 (wrap64 ((Int.tmod (rd x8_2 x11_2) a0_0) + (rd y368 x14_3))) (wrap64 ((wrap64 (Int.tdiv (rd x8_2 x11_2) a0_0)) + (rd y372 x14_3))) (y343.length : Int) x28_1 x104_56 a0_0 a0_1 l0_2 l0_3 = some r) ∧ Aside0 (kq ≤ k3) ∧ Aside0 (Kd.R Kd.bool 4 wc w.heap.size (fun _ => True) (.slice (some ⟨go15, 0, none⟩) x5_3.length co9) x5_3) ∧ Aside0 (Kd.S (Kd.slice 3 (Kd.int .i64)) 22 wc w.heap.size (fun k_ => some k_ ≠ (u8 : Value).ownBlock ∧ some k_ ≠ (v358 : Value).ownBlock) u6 x6_1) ∧ Aside0 (Kd.R (Kd.int .i64) 3 wc w.heap.size (fun k_ => some k_ ≠ (v358 : Value).ownBlock) u8 x8_3) ∧ Aside0 (Kd.R (Kd.int .i64) 3 wc w.heap.size (fun k_ => some k_ ≠ (u8 : Value).ownBlock) v358 t357) ∧ Aside0 (wc.heap[gb342]? = some (.cells #[.int .i64 a0_0, .int .i64 a0_1, (.slice A0_2 l0_2.length c0_2), (.slice A0_3 l0_3.length c0_3)] 28 (0, 0))) ∧ Aside0 (Below w.heap.size w wc))
                      case first =>
                       have H := HC57.out
                       clear HC57
                       replace H := Option.bind_eq_some_iff.mp H
                       obtain ⟨t376, A760, H⟩ := H
                       replace H : (if t376 = true then ((spec_l1In.f (wrap64 ((wrap64 (Int.tdiv (rd x8_2 x11_2) a0_0)) + (rd y372 x14_3))) 0 (wrap64 (a0_1 - 1))).bind fun t377 => (spec_liRegions.j3 k3 a0_0 a0_1 x5_3 x6_1 x8_3 t357 x10_3 x11_2 (Int.tmod (rd x8_2 x11_2) a0_0) (wrap64 (Int.tdiv (rd x8_2 x11_2) a0_0)) x14_3 (wrap64 ((Int.tmod (rd x8_2 x11_2) a0_0) + (rd y368 x14_3))) (wrap64 ((wrap64 (Int.tdiv (rd x8_2 x11_2) a0_0)) + (rd y372 x14_3))) (y343.length : Int) x28_1 (!t377) a0_0 a0_1 l0_2 l0_3)) else (spec_liRegions.j3 k3 a0_0 a0_1 x5_3 x6_1 x8_3 t357 x10_3 x11_2 (Int.tmod (rd x8_2 x11_2) a0_0) (wrap64 (Int.tdiv (rd x8_2 x11_2) a0_0)) x14_3 (wrap64 ((Int.tmod (rd x8_2 x11_2) a0_0) + (rd y368 x14_3))) (wrap64 ((wrap64 (Int.tdiv (rd x8_2 x11_2) a0_0)) + (rd y372 x14_3))) (y343.length : Int) x28_1 true a0_0 a0_1 l0_2 l0_3)) = some r := H
                       have A76 := Aside0.mk A760
                       clear A760
                       by_cases c77 : t376 = true
                       ·subst c77
                        have H1 : ((spec_l1In.f (wrap64 ((wrap64 (Int.tdiv (rd x8_2 x11_2) a0_0)) + (rd y372 x14_3))) 0 (wrap64 (a0_1 - 1))).bind fun t377 => (spec_liRegions.j3 k3 a0_0 a0_1 x5_3 x6_1 x8_3 t357 x10_3 x11_2 (Int.tmod (rd x8_2 x11_2) a0_0) (wrap64 (Int.tdiv (rd x8_2 x11_2) a0_0)) x14_3 (wrap64 ((Int.tmod (rd x8_2 x11_2) a0_0) + (rd y368 x14_3))) (wrap64 ((wrap64 (Int.tdiv (rd x8_2 x11_2) a0_0)) + (rd y372 x14_3))) (y343.length : Int) x28_1 (!t377) a0_0 a0_1 l0_2 l0_3)) = some r := by rw [if_pos rfl] at H; exact H
                        clear H
                        have H := H1
                        clear H1
                        replace H := Option.bind_eq_some_iff.mp H
                        obtain ⟨t377, A780, H⟩ := H
                        replace H : (spec_liRegions.j3 k3 a0_0 a0_1 x5_3 x6_1 x8_3 t357 x10_3 x11_2 (Int.tmod (rd x8_2 x11_2) a0_0) (wrap64 (Int.tdiv (rd x8_2 x11_2) a0_0)) x14_3 (wrap64 ((Int.tmod (rd x8_2 x11_2) a0_0) + (rd y368 x14_3))) (wrap64 ((wrap64 (Int.tdiv (rd x8_2 x11_2) a0_0)) + (rd y372 x14_3))) (y343.length : Int) x28_1 (!t377) a0_0 a0_1 l0_2 l0_3) = some r := H
                        have A78 := Aside0.mk A780
                        clear A780
                        have H' := Aside0.mk H
                        clear H
                        go_wp2_with (first | ((with_reducible refine gate_callee (f := 96) rfl ?_); refine goesL_ (some 108) rfl rfl Try.func96 (by kernel_rfl) rfl #[.int .i64 (wrap64 ((Int.tmod (rd x8_2 x11_2) a0_0) + (rd y368 x14_3))), .int .i64 0, .int .i64 (wrap64 (a0_0 - 1))] rfl ob_ ?_; (with_reducible refine (spec_l1In.calls (wrap64 ((Int.tmod (rd x8_2 x11_2) a0_0) + (rd y368 x14_3))) 0 (wrap64 (a0_0 - 1)) true _ A76.out).mono ?_); rintro e w' ⟨rfl, ⟨nd, rfl⟩⟩; refine ⟨_, rfl, ?_⟩) | (go_at_call 96; (with_reducible refine (spec_l1In.calls (wrap64 ((wrap64 (Int.tdiv (rd x8_2 x11_2) a0_0)) + (rd y372 x14_3))) 0 (wrap64 (a0_1 - 1)) t377 _ A78.out).mono ?_); rintro e w' ⟨rfl, ⟨nd, rfl⟩⟩))
                        go_meet
                        case rel => exact ⟨_, (!t377), rs_, H', ⟨by have := HK1.out; have := HK2.out; have := HK3.out; first | omega | exact Nat.le_refl _⟩, ⟨by (try simp only [hl5_1]); (try simp only [hl5_2]); (try simp only [hl5_3]); (with_reducible repeat (first | apply Kd.R_alloc | apply Kd.R_drewN | apply Kd.R_drew)); exact Kd.R_mono HO_5.out (fun _ hk => trivial)⟩, ⟨by (try simp only [hl5_1]); (try simp only [hl5_2]); (try simp only [hl5_3]); (with_reducible repeat (first | apply Kd.S_alloc | apply Kd.S_drewN | apply Kd.S_drew)); exact Kd.S_mono HO_6.out (fun _ hk => by and_intros <;> first | exact hk | exact hk.1 | exact hk.2 | exact hk.1.1 | exact hk.1.2 | exact hk.2.1 | exact hk.2.2 | trivial)⟩, ⟨by (try simp only [hl5_1]); (try simp only [hl5_2]); (try simp only [hl5_3]); (with_reducible repeat (first | apply Kd.R_alloc | apply Kd.R_drewN | apply Kd.R_drew)); exact Kd.R_mono HO_8.out (fun _ hk => by and_intros <;> first | exact hk | exact hk.1 | exact hk.2 | exact hk.1.1 | exact hk.1.2 | exact hk.2.1 | exact hk.2.2 | trivial)⟩, ⟨by (try simp only [hl5_1]); (try simp only [hl5_2]); (try simp only [hl5_3]); (with_reducible repeat (first | apply Kd.R_alloc | apply Kd.R_drewN | apply Kd.R_drew)); exact Kd.R_mono HO_9.out (fun _ hk => by and_intros <;> first | exact hk | exact hk.1 | exact hk.2 | exact hk.1.1 | exact hk.1.2 | exact hk.2.1 | exact hk.2.2 | trivial)⟩, ⟨by (try simp only [hl5_1]); (try simp only [hl5_2]); (try simp only [hl5_3]); (with_reducible repeat (first | refine blk_drewN ?_ _ | refine blk_drew ?_ | refine blk_alloc ?_ _)); exact BK342.out⟩, ⟨bl1_ HB.out GE342.out⟩⟩
                       ·replace c77 := Bool.eq_false_iff.mpr c77
                        subst c77
                        have H1 : (spec_liRegions.j3 k3 a0_0 a0_1 x5_3 x6_1 x8_3 t357 x10_3 x11_2 (Int.tmod (rd x8_2 x11_2) a0_0) (wrap64 (Int.tdiv (rd x8_2 x11_2) a0_0)) x14_3 (wrap64 ((Int.tmod (rd x8_2 x11_2) a0_0) + (rd y368 x14_3))) (wrap64 ((wrap64 (Int.tdiv (rd x8_2 x11_2) a0_0)) + (rd y372 x14_3))) (y343.length : Int) x28_1 true a0_0 a0_1 l0_2 l0_3) = some r := by rw [if_neg (show ¬ (false = true) by decide)] at H; exact H
                        clear H
                        have H := H1
                        clear H1
                        have H' := Aside0.mk H
                        clear H
                        go_wp2_with (first | ((with_reducible refine gate_callee (f := 96) rfl ?_); refine goesL_ (some 108) rfl rfl Try.func96 (by kernel_rfl) rfl #[.int .i64 (wrap64 ((Int.tmod (rd x8_2 x11_2) a0_0) + (rd y368 x14_3))), .int .i64 0, .int .i64 (wrap64 (a0_0 - 1))] rfl ob_ ?_; (with_reducible refine (spec_l1In.calls (wrap64 ((Int.tmod (rd x8_2 x11_2) a0_0) + (rd y368 x14_3))) 0 (wrap64 (a0_0 - 1)) false _ A76.out).mono ?_); rintro e w' ⟨rfl, ⟨nd, rfl⟩⟩; refine ⟨_, rfl, ?_⟩))
                        go_meet
                        case rel => exact ⟨_, (true), rs_, H', ⟨by have := HK1.out; have := HK2.out; have := HK3.out; first | omega | exact Nat.le_refl _⟩, ⟨by (try simp only [hl5_1]); (try simp only [hl5_2]); (try simp only [hl5_3]); (with_reducible repeat (first | apply Kd.R_alloc | apply Kd.R_drewN | apply Kd.R_drew)); exact Kd.R_mono HO_5.out (fun _ hk => trivial)⟩, ⟨by (try simp only [hl5_1]); (try simp only [hl5_2]); (try simp only [hl5_3]); (with_reducible repeat (first | apply Kd.S_alloc | apply Kd.S_drewN | apply Kd.S_drew)); exact Kd.S_mono HO_6.out (fun _ hk => by and_intros <;> first | exact hk | exact hk.1 | exact hk.2 | exact hk.1.1 | exact hk.1.2 | exact hk.2.1 | exact hk.2.2 | trivial)⟩, ⟨by (try simp only [hl5_1]); (try simp only [hl5_2]); (try simp only [hl5_3]); (with_reducible repeat (first | apply Kd.R_alloc | apply Kd.R_drewN | apply Kd.R_drew)); exact Kd.R_mono HO_8.out (fun _ hk => by and_intros <;> first | exact hk | exact hk.1 | exact hk.2 | exact hk.1.1 | exact hk.1.2 | exact hk.2.1 | exact hk.2.2 | trivial)⟩, ⟨by (try simp only [hl5_1]); (try simp only [hl5_2]); (try simp only [hl5_3]); (with_reducible repeat (first | apply Kd.R_alloc | apply Kd.R_drewN | apply Kd.R_drew)); exact Kd.R_mono HO_9.out (fun _ hk => by and_intros <;> first | exact hk | exact hk.1 | exact hk.2 | exact hk.1.1 | exact hk.1.2 | exact hk.2.1 | exact hk.2.2 | trivial)⟩, ⟨by (try simp only [hl5_1]); (try simp only [hl5_2]); (try simp only [hl5_3]); (with_reducible repeat (first | refine blk_drewN ?_ _ | refine blk_drew ?_ | refine blk_alloc ?_ _)); exact BK342.out⟩, ⟨bl1_ HB.out GE342.out⟩⟩
                      case rest =>
                       clear HC57
                       try clear p2
                       try clear p3
                       try clear q3
                       try clear hx3
                       try clear qi3
                       try clear p6
                       try clear c7
                       try clear c9
                       try clear p36
                       try clear q36
                       try clear hx36
                       try clear qi37
                       try clear p64
                       try clear c77
                       try clear c78
                       try clear hx367_0
                       try clear p367
                       try clear q367
                       obtain ⟨kq, x104_56, rfl, HA, HJ56, HO_5, HO_6, HO_8, HO_9, BK342, HB⟩ := hcut
                       cases kq with
                       | zero => exact absurd HA.out (by simp [spec_liRegions.j3])
                       | succ kj56 =>
                        have H := HA.out
                        clear HA
                        simp only [spec_liRegions.j3] at H
                        by_cases c79 : x104_56 = true
                        ·subst c79
                         have H1 : (spec_liRegions.l2 kj56 a0_0 a0_1 x5_3 x6_1 x8_3 t357 true x11_2 (Int.tmod (rd x8_2 x11_2) a0_0) (wrap64 (Int.tdiv (rd x8_2 x11_2) a0_0)) (wrap64 (x14_3 + 1)) (y343.length : Int) x28_1 a0_0 a0_1 l0_2 l0_3) = some r := by rw [if_pos rfl] at H; exact H
                         clear H
                         have H := H1
                         clear H1
                         have H' := Aside0.mk H
                         clear H
                         go_wp2
                         (try simp only [← hl5_3])
                         go_roundg kj56
                         case measure => have := HK1.out; have := HK2.out; have := HK3.out; have := HJ56.out; omega
                         case rel => exact ⟨(x5_3), (x8_3), (true), (wrap64 (x14_3 + 1)), rs_, rs_, H', ⟨by have := HK1.out; have := HK2.out; have := HK3.out; have := HJ56.out; omega⟩, ⟨by (try simp only [hl5_1]); (try simp only [hl5_2]); (try simp only [hl5_3]); (with_reducible repeat (first | apply Kd.R_alloc | apply Kd.R_drewN | apply Kd.R_drew)); exact HO_5.out⟩, ⟨by (try simp only [hl5_1]); (try simp only [hl5_2]); (try simp only [hl5_3]); (with_reducible repeat (first | apply Kd.S_alloc | apply Kd.S_drewN | apply Kd.S_drew)); exact HO_6.out⟩, ⟨by (try simp only [hl5_1]); (try simp only [hl5_2]); (try simp only [hl5_3]); (with_reducible repeat (first | apply Kd.R_alloc | apply Kd.R_drewN | apply Kd.R_drew)); exact HO_8.out⟩, ⟨by (try simp only [hl5_1]); (try simp only [hl5_2]); (try simp only [hl5_3]); (with_reducible repeat (first | apply Kd.R_alloc | apply Kd.R_drewN | apply Kd.R_drew)); exact HO_9.out⟩, ⟨by (try simp only [hl5_1]); (try simp only [hl5_2]); (try simp only [hl5_3]); (with_reducible repeat (first | refine blk_drewN ?_ _ | refine blk_drew ?_ | refine blk_alloc ?_ _)); exact BK342.out⟩, ⟨bl1_ HB.out GE342.out⟩⟩
                        ·replace c79 := Bool.eq_false_iff.mpr c79
                         subst c79
                         have H1 : (if 0 ≤ (wrap64 ((wrap64 ((wrap64 ((wrap64 (Int.tdiv (rd x8_2 x11_2) a0_0)) + (rd y372 x14_3))) * a0_0)) + (wrap64 ((Int.tmod (rd x8_2 x11_2) a0_0) + (rd y368 x14_3))))) then (if (wrap64 ((wrap64 ((wrap64 ((wrap64 (Int.tdiv (rd x8_2 x11_2) a0_0)) + (rd y372 x14_3))) * a0_0)) + (wrap64 ((Int.tmod (rd x8_2 x11_2) a0_0) + (rd y368 x14_3))))) < (x5_3.length : Int) then (if (rdOf false x5_3 (wrap64 ((wrap64 ((wrap64 ((wrap64 (Int.tdiv (rd x8_2 x11_2) a0_0)) + (rd y372 x14_3))) * a0_0)) + (wrap64 ((Int.tmod (rd x8_2 x11_2) a0_0) + (rd y368 x14_3))))) = true) then (spec_liRegions.l2 kj56 a0_0 a0_1 x5_3 x6_1 x8_3 t357 x10_3 x11_2 (Int.tmod (rd x8_2 x11_2) a0_0) (wrap64 (Int.tdiv (rd x8_2 x11_2) a0_0)) (wrap64 (x14_3 + 1)) (y343.length : Int) x28_1 a0_0 a0_1 l0_2 l0_3) else (if x8_3.length < 17592186044416 then (spec_liRegions.l2 kj56 a0_0 a0_1 (x5_3.set ((wrap64 ((wrap64 ((wrap64 ((wrap64 (Int.tdiv (rd x8_2 x11_2) a0_0)) + (rd y372 x14_3))) * a0_0)) + (wrap64 ((Int.tmod (rd x8_2 x11_2) a0_0) + (rd y368 x14_3))))) : Int).toNat true) x6_1 (x8_3 ++ [wrap64 ((wrap64 ((wrap64 ((wrap64 (Int.tdiv (rd x8_2 x11_2) a0_0)) + (rd y372 x14_3))) * a0_0)) + (wrap64 ((Int.tmod (rd x8_2 x11_2) a0_0) + (rd y368 x14_3))))]) t357 x10_3 x11_2 (Int.tmod (rd x8_2 x11_2) a0_0) (wrap64 (Int.tdiv (rd x8_2 x11_2) a0_0)) (wrap64 (x14_3 + 1)) (y343.length : Int) x28_1 a0_0 a0_1 l0_2 l0_3) else (none))) else (none)) else (none)) = some r := by rw [if_neg (show ¬ (false = true) by decide)] at H; exact H
                         clear H
                         have H := H1
                         clear H1
                         obtain ⟨ji80, hji80⟩ : ∃ j_ : Int, (wrap64 ((wrap64 ((wrap64 ((wrap64 (Int.tdiv (rd x8_2 x11_2) a0_0)) + (rd y372 x14_3))) * a0_0)) + (wrap64 ((Int.tmod (rd x8_2 x11_2) a0_0) + (rd y368 x14_3))))) = j_ := ⟨_, rfl⟩
                         replace H : (if 0 ≤ (ji80) then (if (ji80) < (x5_3.length : Int) then (if (rdOf false x5_3 (ji80) = true) then (spec_liRegions.l2 kj56 a0_0 a0_1 x5_3 x6_1 x8_3 t357 x10_3 x11_2 (Int.tmod (rd x8_2 x11_2) a0_0) (wrap64 (Int.tdiv (rd x8_2 x11_2) a0_0)) (wrap64 (x14_3 + 1)) (y343.length : Int) x28_1 a0_0 a0_1 l0_2 l0_3) else (if x8_3.length < 17592186044416 then (spec_liRegions.l2 kj56 a0_0 a0_1 (x5_3.set ((ji80) : Int).toNat true) x6_1 (x8_3 ++ [ji80]) t357 x10_3 x11_2 (Int.tmod (rd x8_2 x11_2) a0_0) (wrap64 (Int.tdiv (rd x8_2 x11_2) a0_0)) (wrap64 (x14_3 + 1)) (y343.length : Int) x28_1 a0_0 a0_1 l0_2 l0_3) else (none))) else (none)) else (none)) = some r := by first | (rw [hji80] at H; exact H) | (simp only [hji80] at H ⊢; exact H)
                         have hji80w : (IntKind.i64.wrap ((wrap64 ((wrap64 ((wrap64 (Int.tdiv (rd x8_2 x11_2) a0_0)) + (rd y372 x14_3))) * a0_0)) + (wrap64 ((Int.tmod (rd x8_2 x11_2) a0_0) + (rd y368 x14_3))))) = ji80 := (i64_w _).trans hji80
                         by_cases c81 : 0 ≤ (ji80)
                         ·rw [if_pos c81] at H
                          have c81b0 : decide (0 ≤ (ji80)) = true := decide_eq_true c81
                          clear c81
                          by_cases c82 : (ji80) < (x5_3.length : Int)
                          ·rw [if_pos c82] at H
                           have c82b0 : decide ((ji80) < (x5_3.length : Int)) = true := decide_eq_true c82
                           clear c82
                           obtain ⟨bq83, hbq83⟩ : ∃ b_ : Bool, b_ = (rdOf false x5_3 (ji80)) := ⟨_, rfl⟩
                           replace H : (if (bq83 = true) then (spec_liRegions.l2 kj56 a0_0 a0_1 x5_3 x6_1 x8_3 t357 x10_3 x11_2 (Int.tmod (rd x8_2 x11_2) a0_0) (wrap64 (Int.tdiv (rd x8_2 x11_2) a0_0)) (wrap64 (x14_3 + 1)) (y343.length : Int) x28_1 a0_0 a0_1 l0_2 l0_3) else (if x8_3.length < 17592186044416 then (spec_liRegions.l2 kj56 a0_0 a0_1 (x5_3.set ((ji80) : Int).toNat true) x6_1 (x8_3 ++ [ji80]) t357 x10_3 x11_2 (Int.tmod (rd x8_2 x11_2) a0_0) (wrap64 (Int.tdiv (rd x8_2 x11_2) a0_0)) (wrap64 (x14_3 + 1)) (y343.length : Int) x28_1 a0_0 a0_1 l0_2 l0_3) else (none))) = some r := by rw [← hbq83] at H; exact H
                           have Nbq83 := Aside0.mk hbq83
                           clear hbq83
                           by_cases c84 : (bq83 = true)
                           ·subst c84
                            have H1 : (spec_liRegions.l2 kj56 a0_0 a0_1 x5_3 x6_1 x8_3 t357 x10_3 x11_2 (Int.tmod (rd x8_2 x11_2) a0_0) (wrap64 (Int.tdiv (rd x8_2 x11_2) a0_0)) (wrap64 (x14_3 + 1)) (y343.length : Int) x28_1 a0_0 a0_1 l0_2 l0_3) = some r := by rw [if_pos rfl] at H; exact H
                            clear H
                            have H := H1
                            clear H1
                            have H' := Aside0.mk H
                            clear H
                            have p378 : 0 ≤ ((ji80) : Int) := of_decide_eq_true as_
                            have q378 : (ji80) < (x5_3.length : Int) := of_decide_eq_true as_
                            obtain ⟨ad378, e378, hx378_0⟩ := Kd.at_bool (Kd.R_reads' HO_5.out).2.2 (ji80) p378 q378
                            (try rw [← Nbq13.out] at hx378_0)
                            (try rw [← Nbq37.out] at hx378_0)
                            (try rw [← Nbq83.out] at hx378_0)
                            obtain rfl : (⟨go15, 0, none⟩ : Addr) = ad378 := (by injection e378)
                            (first | simp only [add_plain] at hx378_0 | simp only [add_at] at hx378_0 | simp only [Addr.add, Nat.zero_add] at hx378_0 | skip)
                            replace p378 := eq_true p378
                            replace q378 := eq_true q378
                            go_wp2
                            (try simp only [← hl5_3])
                            go_roundg kj56
                            case measure => have := HK1.out; have := HK2.out; have := HK3.out; have := HJ56.out; omega
                            case rel => exact ⟨(x5_3), (x8_3), (x10_3), (wrap64 (x14_3 + 1)), rs_, rs_, H', ⟨by have := HK1.out; have := HK2.out; have := HK3.out; have := HJ56.out; omega⟩, ⟨by (try simp only [hl5_1]); (try simp only [hl5_2]); (try simp only [hl5_3]); (with_reducible repeat (first | apply Kd.R_alloc | apply Kd.R_drewN | apply Kd.R_drew)); exact HO_5.out⟩, ⟨by (try simp only [hl5_1]); (try simp only [hl5_2]); (try simp only [hl5_3]); (with_reducible repeat (first | apply Kd.S_alloc | apply Kd.S_drewN | apply Kd.S_drew)); exact HO_6.out⟩, ⟨by (try simp only [hl5_1]); (try simp only [hl5_2]); (try simp only [hl5_3]); (with_reducible repeat (first | apply Kd.R_alloc | apply Kd.R_drewN | apply Kd.R_drew)); exact HO_8.out⟩, ⟨by (try simp only [hl5_1]); (try simp only [hl5_2]); (try simp only [hl5_3]); (with_reducible repeat (first | apply Kd.R_alloc | apply Kd.R_drewN | apply Kd.R_drew)); exact HO_9.out⟩, ⟨by (try simp only [hl5_1]); (try simp only [hl5_2]); (try simp only [hl5_3]); (with_reducible repeat (first | refine blk_drewN ?_ _ | refine blk_drew ?_ | refine blk_alloc ?_ _)); exact BK342.out⟩, ⟨bl1_ HB.out GE342.out⟩⟩
                           ·replace c84 := Bool.eq_false_iff.mpr c84
                            subst c84
                            have H1 : (if x8_3.length < 17592186044416 then (spec_liRegions.l2 kj56 a0_0 a0_1 (x5_3.set ((ji80) : Int).toNat true) x6_1 (x8_3 ++ [ji80]) t357 x10_3 x11_2 (Int.tmod (rd x8_2 x11_2) a0_0) (wrap64 (Int.tdiv (rd x8_2 x11_2) a0_0)) (wrap64 (x14_3 + 1)) (y343.length : Int) x28_1 a0_0 a0_1 l0_2 l0_3) else (none)) = some r := by rw [if_neg (show ¬ (false = true) by decide)] at H; exact H
                            clear H
                            have H := H1
                            clear H1
                            obtain ⟨y379, hy379⟩ : ∃ y_ : List Bool, y_ = (x5_3.set ((ji80) : Int).toNat true) := ⟨_, rfl⟩
                            replace H : (if x8_3.length < 17592186044416 then (spec_liRegions.l2 kj56 a0_0 a0_1 y379 x6_1 (x8_3 ++ [ji80]) t357 x10_3 x11_2 (Int.tmod (rd x8_2 x11_2) a0_0) (wrap64 (Int.tdiv (rd x8_2 x11_2) a0_0)) (wrap64 (x14_3 + 1)) (y343.length : Int) x28_1 a0_0 a0_1 l0_2 l0_3) else (none)) = some r := by first | (rw [hy379]; with_reducible exact H) | (have H2_ := (Option.bind_some _ _).symm.trans H; rw [hy379]; with_reducible exact H2_) | (have H2_ := (Option.bind_some _ _).symm.trans H; with_reducible exact H2_) | with_reducible exact H | (rw [hy379]; exact H) | exact H
                            have Ny379 := Aside0.mk hy379
                            clear hy379
                            by_cases c86 : x8_3.length < 17592186044416
                            ·rw [if_pos c86] at H
                             have LMc86 := Aside0.mk c86
                             clear c86
                             obtain ⟨y380, hy380⟩ : ∃ y_ : List Int, y_ = (x8_3 ++ [ji80]) := ⟨_, rfl⟩
                             replace H : (spec_liRegions.l2 kj56 a0_0 a0_1 y379 x6_1 y380 t357 x10_3 x11_2 (Int.tmod (rd x8_2 x11_2) a0_0) (wrap64 (Int.tdiv (rd x8_2 x11_2) a0_0)) (wrap64 (x14_3 + 1)) (y343.length : Int) x28_1 a0_0 a0_1 l0_2 l0_3) = some r := by first | (rw [hy380]; with_reducible exact H) | (have H2_ := (Option.bind_some _ _).symm.trans H; rw [hy380]; with_reducible exact H2_) | (have H2_ := (Option.bind_some _ _).symm.trans H; with_reducible exact H2_) | with_reducible exact H | (rw [hy380]; exact H) | exact H
                             have Ny380 := Aside0.mk hy380
                             clear hy380
                             have H' := Aside0.mk H
                             clear H
                             have p378 : 0 ≤ ((ji80) : Int) := of_decide_eq_true as_
                             have q378 : (ji80) < (x5_3.length : Int) := of_decide_eq_true as_
                             obtain ⟨ad378, e378, hx378_0⟩ := Kd.at_bool (Kd.R_reads' HO_5.out).2.2 (ji80) p378 q378
                             (try rw [← Nbq13.out] at hx378_0)
                             (try rw [← Nbq37.out] at hx378_0)
                             (try rw [← Nbq83.out] at hx378_0)
                             obtain rfl : (⟨go15, 0, none⟩ : Addr) = ad378 := (by injection e378)
                             (first | simp only [add_plain] at hx378_0 | simp only [add_at] at hx378_0 | simp only [Addr.add, Nat.zero_add] at hx378_0 | skip)
                             replace p378 := eq_true p378
                             replace q378 := eq_true q378
                             have p85 : 0 ≤ ((ji80) : Int) := of_decide_eq_true as_
                             have q85 : ((ji80) : Int) < ((x5_3.length : Int) : Int) := of_decide_eq_true as_
                             obtain ⟨hx85_0, hf85_0⟩ := Kd.R_celln false HO_5.out ((ji80) : Int) p85 q85
                             replace p85 := eq_true p85
                             replace q85 := eq_true q85
                             have HP87 := Kd.R_putg HO_5.out ((ji80) : Int) true
                             go_wp2_with (first | ((with_reducible refine gate_store (t := 4) (p := 133) rfl ?_); refine store_event (t := 4) (p := 133) (v := ?vo_w88) (w1 := (wc.setCell ⟨go15, ((ji80) : Int).toNat, none⟩ (.bool true))) ?hg ?ho ?hn ?hr ?_; (case ho => rfl); (case hg => rfl); (case hn => rfl); (case hr => first | (go_simp; done) | (go_simp; rfl)); intro w88 hw; have hg : wc.grownBy w88 (some go15) := (by rw [hw]; exact HP87.2); have hp_ : Kd.R Kd.bool 4 w88 w.heap.size (fun _ => True) (.slice (some ⟨go15, 0, none⟩) x5_3.length co9) y379 := (by rw [hw, Ny379.out]; exact HP87.1); clear HP87; have n0_ := Aside0.mk (hp_); have n1_ := Aside0.mk (Kd.S_over' (v := (.slice (some ⟨go15, 0, none⟩) x5_3.length co9)) (by (with_reducible repeat (first | apply Kd.S_alloc | apply Kd.S_drewN | apply Kd.S_drew)); exact HO_6.out) (Kd.R_typed HO_5.out) (by decide) hg); have n2_ := Aside0.mk (Kd.R_over' (v := (.slice (some ⟨go15, 0, none⟩) x5_3.length co9)) (kr_ HO_8.out) (Kd.R_typed HO_5.out) (by decide) hg); have n3_ := Aside0.mk (Kd.R_over' (v := (.slice (some ⟨go15, 0, none⟩) x5_3.length co9)) (kr_ HO_9.out) (Kd.R_typed HO_5.out) (by decide) hg); have n4_ := Aside0.mk (blk_grown (g := gb342) (o := .cells #[.int .i64 a0_0, .int .i64 a0_1, .slice A0_2 l0_2.length c0_2, .slice A0_3 l0_3.length c0_3] 28 (0, 0)) (bk_ BK342.out) hg (Kd.R_ne HO_5.out BK342.out (by decide))); have n5_ := Aside0.mk ((by rw [hw]; exact below_set (HB.out) GB15.out : Below w.heap.size w w88)); clear HO_5; clear HO_6; clear HO_8; clear HO_9; clear BK342; clear HB; have HO_5 := n0_; have HO_6 := n1_; have HO_8 := n2_; have HO_9 := n3_; have BK342 := n4_; have HB := n5_; clear n0_ n1_ n2_ n3_ n4_ n5_; clear hg hw hp_) | ((with_reducible refine gate_builtin (b := .append) (xs := #[.tmp 134, .tmp 140]) rfl ?_); at_builtin; refine Kd.R_append (Kd.int .i64) (w0 := w) w.heap.size rfl (.tmp 134) (.tmp 140) 22 3 (.int .i64 0) 8 rfl Try.underlying22 info3 rfl (by decide) (by omega) u8 x8_3 ji80 [.int .i64 ji80] (fun k_ => some k_ ≠ (v358 : Value).ownBlock) (fun _ => False) rfl rfl ?aP (fun _ hk => hk.elim) ?aF ?aO ?aB ?aS ?aL ?_; (case aP => exact rfl); (case aB => exact (bl1_ HB.out GE342.out)); (case aF => exact (fun k_ hk => Kd.fresh' (Kd.R_lt (kr_ HO_9.out)) k_ hk)); (case aO => exact (kr_ HO_8.out)); (case aS => exact (below_size (bl1_ HB.out GE342.out))); (case aL => have := LMc86.out; omega); intro v381 w89 ho hb hg hat; rw [← Ny380.out] at ho; have n0_ := Aside0.mk (Kd.R_over' (kr_ HO_5.out) (Kd.R_typed (kr_ HO_8.out)) (by decide) hg); have n1_ := Aside0.mk (Kd.S_after (ok := (fun k_ => some k_ ≠ (v358 : Value).ownBlock)) (by (with_reducible repeat (first | apply Kd.S_alloc | apply Kd.S_drewN | apply Kd.S_drew)); exact Kd.S_mono HO_6.out (fun _ hk => by and_intros <;> first | exact hk | exact hk.1 | exact hk.2 | exact hk.1.1 | exact hk.1.2 | exact hk.2.1 | exact hk.2.2 | trivial)) hg hat); have n2_ := Aside0.mk (Kd.R_after (ok := (fun _ => True)) (by (with_reducible repeat (first | apply Kd.R_alloc | apply Kd.R_drewN | apply Kd.R_drew)); exact Kd.R_mono HO_9.out (fun _ hk => ⟨trivial, hk⟩)) hg hat); have n3_ := Aside0.mk (blk_grown (g := gb342) (o := .cells #[.int .i64 a0_0, .int .i64 a0_1, .slice A0_2 l0_2.length c0_2, .slice A0_3 l0_3.length c0_3] 28 (0, 0)) (bk_ BK342.out) hg (Kd.R_ne HO_8.out BK342.out (by decide))); have n4_ := Aside0.mk (hb); have n5_ := Aside0.mk (ho); clear HO_5; clear HO_6; clear HO_9; clear BK342; clear HB; clear HO_8; have HO_5 := n0_; have HO_6 := n1_; have HO_9 := n2_; have BK342 := n3_; have HB := n4_; have HO382 := n5_; clear n0_ n1_ n2_ n3_ n4_ n5_; clear ho hb hg hat))
                             (try simp only [← hl5_3])
                             go_roundg kj56
                             case measure => have := HK1.out; have := HK2.out; have := HK3.out; have := HJ56.out; omega
                             case rel => exact ⟨(y379), (y380), (x10_3), (wrap64 (x14_3 + 1)), rs_, rs_, H', ⟨by have := HK1.out; have := HK2.out; have := HK3.out; have := HJ56.out; omega⟩, ⟨by (try simp only [hl5_1]); (try simp only [hl5_2]); (try simp only [hl5_3]); (with_reducible repeat (first | apply Kd.R_alloc | apply Kd.R_drewN | apply Kd.R_drew)); exact HO_5.out⟩, ⟨by (try simp only [hl5_1]); (try simp only [hl5_2]); (try simp only [hl5_3]); (with_reducible repeat (first | apply Kd.S_alloc | apply Kd.S_drewN | apply Kd.S_drew)); exact Kd.S_mono HO_6.out (fun _ hk => by and_intros <;> first | exact hk | exact hk.1 | exact hk.2 | exact hk.1.1 | exact hk.1.2 | exact hk.2.1 | exact hk.2.2 | trivial)⟩, ⟨by (try simp only [hl5_1]); (try simp only [hl5_2]); (try simp only [hl5_3]); (with_reducible repeat (first | apply Kd.R_alloc | apply Kd.R_drewN | apply Kd.R_drew)); exact HO382.out⟩, ⟨by (try simp only [hl5_1]); (try simp only [hl5_2]); (try simp only [hl5_3]); (with_reducible repeat (first | apply Kd.R_alloc | apply Kd.R_drewN | apply Kd.R_drew)); exact Kd.R_mono HO_9.out (fun _ hk => by and_intros <;> first | exact hk | exact hk.1 | exact hk.2 | exact hk.1.1 | exact hk.1.2 | exact hk.2.1 | exact hk.2.2 | trivial)⟩, ⟨by (try simp only [hl5_1]); (try simp only [hl5_2]); (try simp only [hl5_3]); (with_reducible repeat (first | refine blk_drewN ?_ _ | refine blk_drew ?_ | refine blk_alloc ?_ _)); exact BK342.out⟩, ⟨bl1_ HB.out GE342.out⟩⟩
                            ·rw [if_neg c86] at H
                             exact absurd H (by simp)
                          ·rw [if_neg c82] at H
                           exact absurd H (by simp)
                         ·rw [if_neg c81] at H
                          exact absurd H (by simp)
                    ·rw [if_neg c36] at H
                     exact absurd H (by simp)
                   ·rw [if_neg c35] at H
                    exact absurd H (by simp)
                  ·rw [if_neg c34] at H
                   exact absurd H (by simp)
                 ·rw [if_neg c33] at H
                  exact absurd H (by simp)
                ·rw [if_neg c28] at H
                 have c28b0 : decide (x14_3 < 4) = false := decide_eq_false c28
                 clear c28
                 have H' := Aside0.mk H
                 clear H
                 go_wp2
                 (try simp only [← hl5_2, ← hl5_3])
                 go_roundg k3
                 case measure => have := HK1.out; have := HK2.out; have := HK3.out; omega
                 case rel => exact ⟨(x5_3), (x8_3), (t357), (x10_3), (wrap64 (x11_2 + 1)), rs_, rs_, H', ⟨by have := HK1.out; have := HK2.out; have := HK3.out; omega⟩, ⟨by (try simp only [hl5_1]); (try simp only [hl5_2]); (try simp only [hl5_3]); (with_reducible repeat (first | apply Kd.R_alloc | apply Kd.R_drewN | apply Kd.R_drew)); exact HO_5.out⟩, ⟨by (try simp only [hl5_1]); (try simp only [hl5_2]); (try simp only [hl5_3]); (with_reducible repeat (first | apply Kd.S_alloc | apply Kd.S_drewN | apply Kd.S_drew)); exact HO_6.out⟩, ⟨by (try simp only [hl5_1]); (try simp only [hl5_2]); (try simp only [hl5_3]); (with_reducible repeat (first | apply Kd.R_alloc | apply Kd.R_drewN | apply Kd.R_drew)); exact HO_8.out⟩, ⟨by (try simp only [hl5_1]); (try simp only [hl5_2]); (try simp only [hl5_3]); (with_reducible repeat (first | apply Kd.R_alloc | apply Kd.R_drewN | apply Kd.R_drew)); exact HO_9.out⟩, ⟨by (try simp only [hl5_1]); (try simp only [hl5_2]); (try simp only [hl5_3]); (with_reducible repeat (first | refine blk_drewN ?_ _ | refine blk_drew ?_ | refine blk_alloc ?_ _)); exact BK342.out⟩, ⟨bl1_ HB.out GE342.out⟩⟩
            ·rw [if_neg c21] at H
             exact absurd H (by simp)
           ·rw [if_neg c20] at H
            have c20b0 : decide (x11_2 < (x8_2.length : Int)) = false := decide_eq_false c20
            clear c20
            by_cases c90 : x10_2 = true
            ·subst c90
             have H1 : (spec_liRegions.l0 k2 a0_0 a0_1 x5_2 x6_1 (y343.length : Int) (wrap64 (x28_1 + 1)) a0_0 a0_1 l0_2 l0_3) = some r := by rw [if_pos rfl] at H; exact H
             clear H
             have H := H1
             clear H1
             have H' := Aside0.mk H
             clear H
             obtain ⟨Ao91, co91, eo91⟩ := Kd.R_slice HO_8.out
             subst eo91
             go_wp2
             (try simp only [← hl5_1, ← hl5_2])
             go_roundg k2
             case measure => have := HK1.out; have := HK2.out; omega
             case rel => exact ⟨(x5_2), (x6_1), (wrap64 (x28_1 + 1)), rs_, H', ⟨by have := HK1.out; have := HK2.out; omega⟩, ⟨by (try simp only [hl5_1]); (try simp only [hl5_2]); (with_reducible repeat (first | apply Kd.R_alloc | apply Kd.R_drewN | apply Kd.R_drew)); exact HO_5.out⟩, ⟨by (try simp only [hl5_1]); (try simp only [hl5_2]); (with_reducible repeat (first | apply Kd.S_alloc | apply Kd.S_drewN | apply Kd.S_drew)); exact Kd.S_mono HO_6.out (fun _ hk => trivial)⟩, ⟨by (try simp only [hl5_1]); (try simp only [hl5_2]); (with_reducible repeat (first | refine blk_drewN ?_ _ | refine blk_drew ?_ | refine blk_alloc ?_ _)); exact BK342.out⟩, ⟨bl1_ HB.out GE342.out⟩⟩
            ·replace c90 := Bool.eq_false_iff.mpr c90
             subst c90
             have H1 : (if x6_1.length < 5864062014805 then (spec_liRegions.l0 k2 a0_0 a0_1 x5_2 (x6_1 ++ [x9_2]) (y343.length : Int) (wrap64 (x28_1 + 1)) a0_0 a0_1 l0_2 l0_3) else (none)) = some r := by rw [if_neg (show ¬ (false = true) by decide)] at H; exact H
             clear H
             have H := H1
             clear H1
             by_cases c92 : x6_1.length < 5864062014805
             ·rw [if_pos c92] at H
              have LMc92 := Aside0.mk c92
              clear c92
              obtain ⟨y351, hy351⟩ : ∃ y_ : List (List Int), y_ = (x6_1 ++ [x9_2]) := ⟨_, rfl⟩
              replace H : (spec_liRegions.l0 k2 a0_0 a0_1 x5_2 y351 (y343.length : Int) (wrap64 (x28_1 + 1)) a0_0 a0_1 l0_2 l0_3) = some r := by first | (rw [hy351]; with_reducible exact H) | (have H2_ := (Option.bind_some _ _).symm.trans H; rw [hy351]; with_reducible exact H2_) | (have H2_ := (Option.bind_some _ _).symm.trans H; with_reducible exact H2_) | with_reducible exact H | (rw [hy351]; exact H) | exact H
              have Ny351 := Aside0.mk hy351
              clear hy351
              have H' := Aside0.mk H
              clear H
              obtain ⟨Ao93, co93, eo93⟩ := Kd.R_slice HO_8.out
              subst eo93
              obtain ⟨Ao95, co95, eo95⟩ := Kd.R_slice HO_9.out
              subst eo95
              go_wp2_with (first | ((with_reducible refine gate_builtin (b := .append) (xs := #[.tmp 144, .tmp 146]) rfl ?_); at_builtin; refine Kd.S_append (Kd.slice 3 (Kd.int .i64)) (w0 := w) w.heap.size rfl (.tmp 144) (.tmp 146) 32 22 (.slice none 0 0) 24 rfl Try.underlying32 info22 rfl (by decide) (by omega) u6 x6_1 x9_2 [.slice Ao95 x9_2.length co95] (fun k_ => some k_ ≠ (.slice Ao93 x8_2.length co93 : Value).ownBlock) (fun k_ => some k_ = (.slice Ao95 x9_2.length co95 : Value).ownBlock) rfl rfl ?aP (fun k_ hk_ => ((Kd.R_mono (ok' := fun k_ => ((fun k_ => some k_ ≠ (.slice Ao93 x8_2.length co93 : Value).ownBlock)) k_ ∧ some k_ ≠ (u6 : Value).ownBlock) (Kd.R_apart' (HO_9.out) (Kd.S_typed HO_6.out) (by decide)) (fun k_ hk => ⟨hk.1, hk.2⟩))).1 k_ hk_.symm) ?aF ?aO ?aB ?aS ?aL ?_; (case aP => exact Kd.M_row (Kd.R_mono (Kd.R_tight rfl (Kd.R_mono (ok' := fun k_ => ((fun k_ => some k_ ≠ (.slice Ao93 x8_2.length co93 : Value).ownBlock)) k_ ∧ some k_ ≠ (u6 : Value).ownBlock) (Kd.R_apart' (HO_9.out) (Kd.S_typed HO_6.out) (by decide)) (fun k_ hk => ⟨hk.1, hk.2⟩))) (fun _ h_ => h_))); (case aB => exact (bl1_ HB.out GE342.out)); (case aF => exact (fun k_ hk => Kd.fresh' (Kd.R_lt (kr_ HO_8.out)) k_ hk)); (case aO => exact (by (with_reducible repeat (first | apply Kd.S_alloc | apply Kd.S_drewN | apply Kd.S_drew)); exact Kd.S_mono HO_6.out (fun k_ hk => ⟨hk.1, fun e_ => hk.2 e_⟩))); (case aS => exact (below_size (bl1_ HB.out GE342.out))); (case aL => have := LMc92.out; omega); intro v352 w94 ho hb hg hat; rw [← Ny351.out] at ho; have n0_ := Aside0.mk (Kd.R_over' (kr_ HO_5.out) (Kd.S_typed (by (with_reducible repeat (first | apply Kd.S_alloc | apply Kd.S_drewN | apply Kd.S_drew)); exact HO_6.out)) (by decide) hg); have n1_ := Aside0.mk (Kd.R_over' (kr_ HO_8.out) (Kd.S_typed (by (with_reducible repeat (first | apply Kd.S_alloc | apply Kd.S_drewN | apply Kd.S_drew)); exact HO_6.out)) (by decide) hg); have n2_ := Aside0.mk (blk_grown (g := gb342) (o := .cells #[.int .i64 a0_0, .int .i64 a0_1, .slice A0_2 l0_2.length c0_2, .slice A0_3 l0_3.length c0_3] 28 (0, 0)) (bk_ BK342.out) hg (Kd.S_ne HO_6.out BK342.out (by decide))); have n3_ := Aside0.mk (hb); have n4_ := Aside0.mk (ho); clear HO_5; clear HO_8; clear BK342; clear HB; clear HO_6; clear HO_9; have HO_5 := n0_; have HO_8 := n1_; have BK342 := n2_; have HB := n3_; have HO353 := n4_; clear n0_ n1_ n2_ n3_ n4_; clear ho hb hg hat))
              (try simp only [← hl5_1, ← hl5_2])
              go_roundg k2
              case measure => have := HK1.out; have := HK2.out; omega
              case rel => exact ⟨(x5_2), (y351), (wrap64 (x28_1 + 1)), rs_, H', ⟨by have := HK1.out; have := HK2.out; omega⟩, ⟨by (try simp only [hl5_1]); (try simp only [hl5_2]); (with_reducible repeat (first | apply Kd.R_alloc | apply Kd.R_drewN | apply Kd.R_drew)); exact HO_5.out⟩, ⟨by (try simp only [hl5_1]); (try simp only [hl5_2]); (with_reducible repeat (first | apply Kd.S_alloc | apply Kd.S_drewN | apply Kd.S_drew)); exact Kd.S_mono HO353.out (fun _ hk => trivial)⟩, ⟨by (try simp only [hl5_1]); (try simp only [hl5_2]); (with_reducible repeat (first | refine blk_drewN ?_ _ | refine blk_drew ?_ | refine blk_alloc ?_ _)); exact BK342.out⟩, ⟨bl1_ HB.out GE342.out⟩⟩
             ·rw [if_neg c92] at H
              exact absurd H (by simp)
       ·rw [if_neg c12] at H
        exact absurd H (by simp)
      ·rw [if_neg c11] at H
       exact absurd H (by simp)
     ·rw [if_neg c10] at H
      have c10b0 : decide (x28_1 < (y343.length : Int)) = false := decide_eq_false c10; (try rw [hl5_1] at c10b0)
      clear c10
      obtain rfl := Option.some.inj H
      go_wp2
      go_ret
      exact ⟨_, by first | rfl | (simp [errW_none, errW_some] <;> rfl) | (simp only [← hji2]; first | rfl | (simp [errW_none, errW_some] <;> rfl)) | (simp [*, errW_none, errW_some] <;> rfl), by (with_reducible repeat (first | apply Kd.S_alloc | apply Kd.S_drewN | apply Kd.S_drew)); exact HO_6.out, bl1_ HB.out GE342.out⟩
  ·rw [if_neg c4] at H
   exact absurd H (by simp)
 ·rw [if_neg c3] at H
  exact absurd H (by simp)


def spec_RegionsOf.f (k : Nat) (a0_0 : Int) (a0_1 : Int) (l0_2 : List Int) (l0_3 : List Int) : Option ((List (List Int)) × Bool) := (spec_fiGood.f k a0_0 a0_1 l0_2 l0_3).bind fun t384 => (if t384 = true then ((spec_liRegions.f k a0_0 a0_1 l0_2 l0_3).bind fun t385 => (some (t385, true))) else (some (([] : List (List Int)), false)))
theorem spec_RegionsOf.mono : ∀ a0 a1 a2 a3 k, LeO (spec_RegionsOf.f k a0 a1 a2 a3) (spec_RegionsOf.f (k + 1) a0 a1 a2 a3) := by
 intro a0 a1 a2 a3 k
 unfold spec_RegionsOf.f
 repeat' first
   | (with_reducible exact spec_fiGood.mono _ _ _ _ _)
   | (with_reducible exact spec_liRegions.mono _ _ _ _ _)
   | (with_reducible exact LeO.refl _)
   | (with_reducible exact LeO.none _)
   | (with_reducible refine LeO.ite ?_ ?_)
   | (with_reducible refine LeO.bind ?_ (fun _ => ?_))
   | exact spec_fiGood.mono _ _ _ _ _
   | exact spec_liRegions.mono _ _ _ _ _
   | exact LeO.none _
   | refine LeO.ite ?_ ?_
   | refine LeO.bind ?_ (fun _ => ?_)
set_option maxHeartbeats 8000000 in
set_option maxRecDepth 100000 in
theorem spec_RegionsOf.calls (k : Nat) (a0_0 : Int) (a0_1 : Int) (A0_2 : Option Addr) (c0_2 : Nat) (l0_2 : List Int) (A0_3 : Option Addr) (c0_3 : Nat) (l0_3 : List Int) (r1 : List (List Int)) (r2 : Bool) (w : World) (hr0_2 : Kd.C (Kd.int .i64) w A0_2 l0_2.length l0_2) (hc0_2 : l0_2.length ≤ c0_2) (hr0_3 : Kd.C (Kd.int .i64) w A0_3 l0_3.length l0_3) (hc0_3 : l0_3.length ≤ c0_3) (h : spec_RegionsOf.f k a0_0 a0_1 l0_2 l0_3 = some (r1, r2)) :
  Calls Try.prog 21 #[.agg #[.int .i64 a0_0, .int .i64 a0_1, .slice A0_2 l0_2.length c0_2, .slice A0_3 l0_3.length c0_3]] w fun e w' => ∃ v0_ : Value, e = .returned (.tuple #[v0_, .bool r2]) ∧ Kd.S (Kd.slice 3 (Kd.int .i64)) 22 w' w.heap.size (fun _ => True) v0_ r1 ∧ Below w.heap.size w w' := by
 have hu28 := Try.underlying28
 have HR0_2 := Aside0.mk hr0_2
 have HC0_2 := Aside0.mk hc0_2
 clear hr0_2 hc0_2
 have HR0_3 := Aside0.mk hr0_3
 have HC0_3 := Aside0.mk hc0_3
 clear hr0_3 hc0_3
 have HB := Aside0.mk (Below.refl w.heap.size w)
 have H : ((spec_fiGood.f k a0_0 a0_1 l0_2 l0_3).bind fun t384 => (if t384 = true then ((spec_liRegions.f k a0_0 a0_1 l0_2 l0_3).bind fun t385 => (some (t385, true))) else (some (([] : List (List Int)), false)))) = some (r1, r2) := h
 clear h
 replace H := Option.bind_eq_some_iff.mp H
 obtain ⟨t384, A20, H⟩ := H
 replace H : (if t384 = true then ((spec_liRegions.f k a0_0 a0_1 l0_2 l0_3).bind fun t385 => (some (t385, true))) else (some (([] : List (List Int)), false))) = some (r1, r2) := H
 have A2 := Aside0.mk A20
 clear A20
 by_cases c3 : t384 = true
 ·subst c3
  have H1 : ((spec_liRegions.f k a0_0 a0_1 l0_2 l0_3).bind fun t385 => (some (t385, true))) = some (r1, r2) := by rw [if_pos rfl] at H; exact H
  clear H
  have H := H1
  clear H1
  replace H := Option.bind_eq_some_iff.mp H
  obtain ⟨t385, A40, H⟩ := H
  replace H : (some (t385, true)) = some (r1, r2) := H
  have A4 := Aside0.mk A40
  clear A40
  simp only [Option.some.injEq, Prod.mk.injEq] at H
  obtain ⟨rfl, rfl⟩ := H
  go_enter Try.func21, Try.ntmps21
  go_wp2_with (first | ((with_reducible refine gate_dst (N := 1) rfl ?_); refine boxE_ (N := 1) (cs := #[.int .i64 a0_0, .int .i64 a0_1, .slice A0_2 l0_2.length c0_2, .slice A0_3 l0_3.length c0_3]) (t := 28) ?_; intro gb383 hg w5 hbox hb; have n0_ := Aside0.mk (below_step (bl0_ HB.out) hb); have n1_ := Aside0.mk (hbox); have n2_ := Aside0.mk ((bs0_ hg HB.out : w.heap.size ≤ gb383)); have n3_ := Aside0.mk ((bs0_ hg HB.out : w.heap.size ≤ gb383)); clear HB; have HB := n0_; have BK383 := n1_; have GW383 := n2_; have GE383 := n3_; clear n0_ n1_ n2_ n3_; clear hb hbox hg; have hcz6_0 : w5.cell? ⟨gb383, 0, none⟩ = some (.int .i64 a0_0) := (blk_cell BK383.out 0).trans rfl; have hcz6_1 : w5.cell? ⟨gb383, 1, none⟩ = some (.int .i64 a0_1) := (blk_cell BK383.out 1).trans rfl; have hcz6_2 : w5.cell? ⟨gb383, 2, none⟩ = some (.slice A0_2 l0_2.length c0_2) := (blk_cell BK383.out 2).trans rfl; have hcz6_3 : w5.cell? ⟨gb383, 3, none⟩ = some (.slice A0_3 l0_3.length c0_3) := (blk_cell BK383.out 3).trans rfl; have hfz6_0 := blk_frozen BK383.out 0; have hfz6_1 := blk_frozen BK383.out 1; have hfz6_2 := blk_frozen BK383.out 2; have hfz6_3 := blk_frozen BK383.out 3) | ((with_reducible refine gate_callee (f := 34) rfl ?_); refine goesL_ (some 5) rfl rfl Try.func34 (by kernel_rfl) rfl #[.agg #[.int .i64 a0_0, .int .i64 a0_1, .slice A0_2 l0_2.length c0_2, .slice A0_3 l0_3.length c0_3]] rfl ob_ ?_; (with_reducible refine (spec_fiGood.calls k a0_0 a0_1 _ _ l0_2 _ _ l0_3 true _ ?side1 ?side2 ?side3 ?side4 A2.out).mono ?_); (case side1 => exact kc_ (Kd.C_below HR0_2.out HB.out)); (case side2 => exact HC0_2.out); (case side3 => exact kc_ (Kd.C_below HR0_3.out HB.out)); (case side4 => exact HC0_3.out); rintro e w7 ⟨rfl, hb⟩; refine ⟨_, rfl, ?_⟩; have n0_ := Aside0.mk (bb_ BK383.out hb); have n1_ := Aside0.mk (below_step (bl1_ HB.out GE383.out) hb); clear BK383; clear HB; have BK383 := n0_; have HB := n1_; clear n0_ n1_; (try clear hb); (try clear hb2); (try clear hk); (try clear hi); have hcz8_0 : w7.cell? ⟨gb383, 0, none⟩ = some (.int .i64 a0_0) := (blk_cell BK383.out 0).trans rfl; have hcz8_1 : w7.cell? ⟨gb383, 1, none⟩ = some (.int .i64 a0_1) := (blk_cell BK383.out 1).trans rfl; have hcz8_2 : w7.cell? ⟨gb383, 2, none⟩ = some (.slice A0_2 l0_2.length c0_2) := (blk_cell BK383.out 2).trans rfl; have hcz8_3 : w7.cell? ⟨gb383, 3, none⟩ = some (.slice A0_3 l0_3.length c0_3) := (blk_cell BK383.out 3).trans rfl; have hfz8_0 := blk_frozen BK383.out 0; have hfz8_1 := blk_frozen BK383.out 1; have hfz8_2 := blk_frozen BK383.out 2; have hfz8_3 := blk_frozen BK383.out 3) | ((with_reducible refine gate_callee (f := 46) rfl ?_); refine goesL_ (some 8) rfl rfl Try.func46 (by kernel_rfl) rfl #[.agg #[.int .i64 a0_0, .int .i64 a0_1, .slice A0_2 l0_2.length c0_2, .slice A0_3 l0_3.length c0_3]] rfl ob_ ?_; (with_reducible refine (spec_liRegions.calls k a0_0 a0_1 _ _ l0_2 _ _ l0_3 t385 _ ?side1 ?side2 ?side3 ?side4 A4.out).mono ?_); (case side1 => exact kc_ (Kd.C_below HR0_2.out HB.out)); (case side2 => exact HC0_2.out); (case side3 => exact kc_ (Kd.C_below HR0_3.out HB.out)); (case side4 => exact HC0_3.out); rintro e w9 ⟨v386, rfl, ho0, hb⟩; refine ⟨_, rfl, ?_⟩; have n0_ := Aside0.mk (Kd.S_lower ho0 (below_size (bl1_ HB.out GE383.out))); have n1_ := Aside0.mk (bb_ BK383.out hb); have n2_ := Aside0.mk (below_step (bl1_ HB.out GE383.out) hb); clear BK383; clear HB; have HO387 := n0_; have BK383 := n1_; have HB := n2_; clear n0_ n1_ n2_; (try clear hb); (try clear hb2); (try clear hk); (try clear hi); (try clear ho0)))
  go_ret2
  exact ⟨_, er_, by (with_reducible repeat (first | apply Kd.S_alloc | apply Kd.S_drewN | apply Kd.S_drew)); exact HO387.out, bl1_ HB.out GE383.out⟩
 ·replace c3 := Bool.eq_false_iff.mpr c3
  subst c3
  have H1 : (some (([] : List (List Int)), false)) = some (r1, r2) := by rw [if_neg (show ¬ (false = true) by decide)] at H; exact H
  clear H
  have H := H1
  clear H1
  simp only [Option.some.injEq, Prod.mk.injEq] at H
  obtain ⟨rfl, rfl⟩ := H
  go_enter Try.func21, Try.ntmps21
  go_wp2_with (first | ((with_reducible refine gate_dst (N := 1) rfl ?_); refine boxE_ (N := 1) (cs := #[.int .i64 a0_0, .int .i64 a0_1, .slice A0_2 l0_2.length c0_2, .slice A0_3 l0_3.length c0_3]) (t := 28) ?_; intro gb383 hg w10 hbox hb; have n0_ := Aside0.mk (below_step (bl0_ HB.out) hb); have n1_ := Aside0.mk (hbox); have n2_ := Aside0.mk ((bs0_ hg HB.out : w.heap.size ≤ gb383)); have n3_ := Aside0.mk ((bs0_ hg HB.out : w.heap.size ≤ gb383)); clear HB; have HB := n0_; have BK383 := n1_; have GW383 := n2_; have GE383 := n3_; clear n0_ n1_ n2_ n3_; clear hb hbox hg; have hcz11_0 : w10.cell? ⟨gb383, 0, none⟩ = some (.int .i64 a0_0) := (blk_cell BK383.out 0).trans rfl; have hcz11_1 : w10.cell? ⟨gb383, 1, none⟩ = some (.int .i64 a0_1) := (blk_cell BK383.out 1).trans rfl; have hcz11_2 : w10.cell? ⟨gb383, 2, none⟩ = some (.slice A0_2 l0_2.length c0_2) := (blk_cell BK383.out 2).trans rfl; have hcz11_3 : w10.cell? ⟨gb383, 3, none⟩ = some (.slice A0_3 l0_3.length c0_3) := (blk_cell BK383.out 3).trans rfl; have hfz11_0 := blk_frozen BK383.out 0; have hfz11_1 := blk_frozen BK383.out 1; have hfz11_2 := blk_frozen BK383.out 2; have hfz11_3 := blk_frozen BK383.out 3) | ((with_reducible refine gate_callee (f := 34) rfl ?_); refine goesL_ (some 5) rfl rfl Try.func34 (by kernel_rfl) rfl #[.agg #[.int .i64 a0_0, .int .i64 a0_1, .slice A0_2 l0_2.length c0_2, .slice A0_3 l0_3.length c0_3]] rfl ob_ ?_; (with_reducible refine (spec_fiGood.calls k a0_0 a0_1 _ _ l0_2 _ _ l0_3 false _ ?side1 ?side2 ?side3 ?side4 A2.out).mono ?_); (case side1 => exact kc_ (Kd.C_below HR0_2.out HB.out)); (case side2 => exact HC0_2.out); (case side3 => exact kc_ (Kd.C_below HR0_3.out HB.out)); (case side4 => exact HC0_3.out); rintro e w12 ⟨rfl, hb⟩; refine ⟨_, rfl, ?_⟩; have n0_ := Aside0.mk (bb_ BK383.out hb); have n1_ := Aside0.mk (below_step (bl1_ HB.out GE383.out) hb); clear BK383; clear HB; have BK383 := n0_; have HB := n1_; clear n0_ n1_; (try clear hb); (try clear hb2); (try clear hk); (try clear hi)))
  go_ret2
  exact ⟨_, er_, by first | exact Kd.S_nil _ _ _ _ _ | exact Kd.N_nil _ _ _ _ _ | exact Kd.V_nil _ _ _ _ _ | exact Kd.Q_nil _ _ _ _ _ | exact Kd.R_nil _ _ _ _ _, bl1_ HB.out GE383.out⟩


def impl_grid_level.f (a0_0 : Int) (a0_1 : Int) (a1 : Int) (a2 : Int) : Option (Int) := if 0 ≤ (wrap64 ((wrap64 (a2 * a0_0)) + a1)) then (some (shl .u64 1 (wrap64 ((wrap64 (a2 * a0_0)) + a1)))) else (none)

def impl_grid_upright.f (a0_0 : Int) (a0_1 : Int) (a1 : Int) (a2 : Int) : Option (Int) := (impl_grid_levels.f a0_0 a0_1).bind fun t179 => (if 0 ≤ (wrap64 ((wrap64 (t179 + (wrap64 (a2 * (wrap64 (a0_0 + 1)))))) + a1)) then (some (shl .u64 1 (wrap64 ((wrap64 (t179 + (wrap64 (a2 * (wrap64 (a0_0 + 1)))))) + a1)))) else (none))
def impl_grid_upright.T1 : Bool × List (List Nat × List Nat) := (true, [([], []), ([0], [0]), ([], []), ([], []), ([3], [3]), ([4], [4]), ([2, 5], [2, 5]), ([1, 6], [1, 6]), ([], []), ([7, 8], [7, 8]), ([9], [9]), ([10, 1, 0, 1, 2, 3, 4, 5, 6, 7, 8, 9, 10], [10])])
def impl_grid_upright.B1 : List Nat := [0, 1, 0, 0, 8, 24, 60, 127, 0, 511, 1023, 2047]
theorem impl_grid_upright.tab1 : rtab .any (opsOf Try.f89 1) = impl_grid_upright.T1 := by kernel_rfl
theorem impl_grid_upright.bits1 : waitsOk impl_grid_upright.T1.2 impl_grid_upright.B1 = true := by kernel_rfl

structure GridOK (w h : Int) : Prop where
  w1 : 1 ≤ w
  w4 : w ≤ 4
  h1 : 1 ≤ h
  h4 : h ≤ 4
theorem gridOK_of {w h : Int} {a u : List Int} (hf : figB w h a u = true) : GridOK w h := by
  unfold figB at hf
  simp only [Bool.and_eq_true] at hf
  obtain ⟨b1, b2, b3, b4⟩ := grid_bounds (by simp only [Bool.and_eq_true]; exact hf.1)
  exact ⟨b1, b2, b3, b4⟩
theorem prod_b {w y : Int} (h1 : 1 ≤ w) (h4 : w ≤ 5) (hy : 0 ≤ y) (hy4 : y ≤ 4) : 0 ≤ y * w ∧ y * w ≤ 20 := by
  have : y = 0 ∨ y = 1 ∨ y = 2 ∨ y = 3 ∨ y = 4 := by omega
  rcases this with rfl | rfl | rfl | rfl | rfl <;> omega
theorem l1Has_l0 (l : List Int) (n : Int) (hL : l.length ≤ 4000000) : ∀ (d k i : Nat), l.length - i = d → i ≤ l.length → d < k → spec_l1Has.l0 k n l (l.length : Int) (i : Int) = some (decide (n ∈ l.drop i)) := by
  intro d
  induction d with
  | zero =>
    intro k i h1 h3 h4
    obtain ⟨k, rfl⟩ : ∃ m, k = m + 1 := ⟨k - 1, by omega⟩
    simp only [spec_l1Has.l0]
    rw [if_neg (by omega), List.drop_of_length_le (by omega)]
    rfl
  | succ d ih =>
    intro k i h1 h3 h4
    obtain ⟨k, rfl⟩ : ∃ m, k = m + 1 := ⟨k - 1, by omega⟩
    have e2 : wrap64 ((i : Int) + 1) = ((i + 1 : Nat) : Int) := by unfold wrap64; omega
    simp only [spec_l1Has.l0]
    rw [if_pos (by omega), if_pos (by omega), if_pos (by omega), rd_nat l i (by omega), e2, ih k (i + 1) (by omega) (by omega) (by omega), List.drop_eq_getElem_cons (show i < l.length by omega)]
    by_cases hn : l[i] = n
    · rw [if_pos hn, decide_eq_true (show n ∈ l[i] :: l.drop (i + 1) by rw [hn]; exact List.mem_cons_self)]
    · rw [if_neg hn]
      congr 1
      rw [decide_eq_decide, List.mem_cons]
      constructor
      · exact Or.inr
      · rintro (h | h)
        · exact absurd h.symm hn
        · exact h
theorem l1Has_f (l : List Int) (n : Int) (hL : l.length ≤ 4000000) (k : Nat) (hk : l.length < k) : spec_l1Has.f k l n = some (decide (n ∈ l)) := by
  unfold spec_l1Has.f
  exact l1Has_l0 l n hL l.length k 0 (by omega) (by omega) hk
theorem fiHas_level {w h : Int} {a u : List Int} (g : GridOK w h) (hf : figB w h a u = true) (ha : a.length ≤ 1000000) (k : Nat) (hk : 1000000 < k) (x y : Int) (hx0 : 0 ≤ x) (hx1 : x < w) (hy0 : 0 ≤ y) (hy1 : y ≤ h) :
    spec_fiHas.f k w h a u false x y = some ((figMask w h a u).testBit (y * w + x).toNat) := by
  have w1 := g.w1
  have w4 := g.w4
  have h1 := g.h1
  have h4 := g.h4
  obtain ⟨p1, p2⟩ := prod_b (w := w) (y := y) w1 (by omega) hy0 (by omega)
  have e0 : wrap64 (w - 1) = w - 1 := by unfold wrap64; omega
  have e1 : wrap64 (y * w) = y * w := by unfold wrap64; omega
  have e2 : wrap64 (y * w + x) = y * w + x := by unfold wrap64; omega
  have hlt : ((y * w + x).toNat : Int) < w * (h + 1) := by
    have c1 : y = 0 ∨ y = 1 ∨ y = 2 ∨ y = 3 ∨ y = 4 := by omega
    have c2 : h = 1 ∨ h = 2 ∨ h = 3 ∨ h = 4 := by omega
    clear e0 e1 e2 hf
    rcases c2 with rfl | rfl | rfl | rfl <;> rcases c1 with rfl | rfl | rfl | rfl | rfl <;> omega
  have ht : ((y * w + x).toNat : Int) = y * w + x := by omega
  unfold spec_fiHas.f spec_fiEdge.f
  rw [if_neg (by decide), l1In_f, Option.bind_some, e0, decide_eq_true hx0, decide_eq_true (show x ≤ w - 1 by omega), if_pos (show (true && true) = true from rfl), l1In_f, Option.bind_some, decide_eq_true hy0, decide_eq_true hy1, Option.bind_some, if_neg (show ¬ false = true by decide), e1, e2, l1Has_f a _ (by omega) k (by omega), Option.bind_some, figMask_level hf _ hlt, ht]
theorem fiHas_upright {w h : Int} {a u : List Int} (g : GridOK w h) (hf : figB w h a u = true) (hu : u.length ≤ 1000000) (k : Nat) (hk : 1000000 < k) (x y : Int) (hx0 : 0 ≤ x) (hx1 : x ≤ w) (hy0 : 0 ≤ y) (hy1 : y < h) :
    spec_fiHas.f k w h a u true x y = some ((figMask w h a u).testBit ((w * (h + 1)).toNat + (y * (w + 1) + x).toNat)) := by
  have w1 := g.w1
  have w4 := g.w4
  have h1 := g.h1
  have h4 := g.h4
  obtain ⟨p1, p2⟩ := prod_b (w := w + 1) (y := y) (by omega) (by omega) hy0 (by omega)
  have e0 : wrap64 (h - 1) = h - 1 := by unfold wrap64; omega
  have e3 : wrap64 (w + 1) = w + 1 := by unfold wrap64; omega
  have e1 : wrap64 (y * (w + 1)) = y * (w + 1) := by unfold wrap64; omega
  have e2 : wrap64 (y * (w + 1) + x) = y * (w + 1) + x := by unfold wrap64; omega
  have ht : ((y * (w + 1) + x).toNat : Int) = y * (w + 1) + x := by omega
  unfold spec_fiHas.f spec_fiEdge.f
  rw [if_pos rfl, l1In_f, Option.bind_some, e0, e3, decide_eq_true hx0, decide_eq_true hx1, if_pos (show (true && true) = true from rfl), l1In_f, Option.bind_some, Option.bind_some, if_pos rfl, e1, e2, l1Has_f u _ (by omega) k (by omega), Option.bind_some, figMask_upright hf, ht]

theorem rising_ext : ∀ {l m : List Int}, l.Pairwise (· < ·) → m.Pairwise (· < ·) → (∀ x, x ∈ l ↔ x ∈ m) → l = m
  | [], [], _, _, _ => rfl
  | [], b :: m, _, _, h => by have := (h b).2 List.mem_cons_self; cases this
  | a :: l, [], _, _, h => by have := (h a).1 List.mem_cons_self; cases this
  | a :: l, b :: m, h1, h2, h => by
    rw [List.pairwise_cons] at h1 h2
    have e : a = b := by
      rcases List.mem_cons.1 ((h a).1 List.mem_cons_self) with e | e
      · exact e
      · rcases List.mem_cons.1 ((h b).2 List.mem_cons_self) with e2 | e2
        · exact e2.symm
        · have := h2.1 a e; have := h1.1 b e2; omega
    subst e
    rw [rising_ext h1.2 h2.2 (fun x => ?_)]
    constructor
    · intro hx
      rcases List.mem_cons.1 ((h x).1 (List.mem_cons_of_mem _ hx)) with e | e
      · have := h1.1 x hx; omega
      · exact e
    · intro hx
      rcases List.mem_cons.1 ((h x).2 (List.mem_cons_of_mem _ hx)) with e | e
      · have := h2.1 x hx; omega
      · exact e
def setL (n : Nat) (p : Nat → Bool) : List Int := ((List.range n).filter p).map fun n : Nat => (n : Int)
theorem setL_pw (n : Nat) (p : Nat → Bool) : (setL n p).Pairwise (· < ·) := by
  unfold setL
  rw [List.pairwise_map]
  exact (List.Pairwise.filter p List.pairwise_lt_range).imp (fun h => by omega)
theorem setL_mem (n : Nat) (p : Nat → Bool) (x : Int) : x ∈ setL n p ↔ ∃ i : Nat, (i : Int) = x ∧ i < n ∧ p i = true := by
  unfold setL
  rw [List.mem_map]
  constructor
  · rintro ⟨i, hi, rfl⟩
    rw [List.mem_filter, List.mem_range] at hi
    exact ⟨i, rfl, hi⟩
  · rintro ⟨i, rfl, hi⟩
    exact ⟨i, by rw [List.mem_filter, List.mem_range]; exact hi, rfl⟩
theorem setL_len (n : Nat) (p : Nat → Bool) : (setL n p).length ≤ n := by
  unfold setL
  rw [List.length_map]
  have := List.length_filter_le p (List.range n)
  rw [List.length_range] at this
  exact this
theorem setL_congr {n : Nat} {p q : Nat → Bool} (h : ∀ i, i < n → p i = q i) : setL n p = setL n q := by
  unfold setL
  congr 1
  exact List.filter_congr (fun i hi => h i (List.mem_range.1 hi))
theorem rising_setL {l : List Int} {n : Nat} (h : l.Pairwise (· < ·)) (hb : ∀ x ∈ l, 0 ≤ x ∧ x < (n : Int)) {p : Nat → Bool} (hp : ∀ i : Nat, i < n → (p i = true ↔ (i : Int) ∈ l)) : l = setL n p := by
  refine rising_ext h (setL_pw n p) (fun x => ?_)
  rw [setL_mem]
  constructor
  · intro hx
    have hx2 := hb x hx
    obtain ⟨i, rfl⟩ := Int.eq_ofNat_of_zero_le hx2.1
    exact ⟨i, rfl, by omega, (hp i (by omega)).2 hx⟩
  · rintro ⟨i, rfl, hi, hpi⟩
    exact (hp i hi).1 hpi
theorem setL_in (n : Nat) (p : Nat → Bool) (i : Nat) : (i : Int) ∈ setL n p ↔ i < n ∧ p i = true := by
  rw [setL_mem]
  constructor
  · rintro ⟨j, hj, h⟩
    have : j = i := by omega
    subst this
    exact h
  · intro h; exact ⟨i, rfl, h⟩
theorem setL_succ (n : Nat) (p : Nat → Bool) : setL (n + 1) p = setL n p ++ if p n = true then [(n : Int)] else [] := by
  unfold setL
  rw [List.range_succ, List.filter_append, List.map_append]
  congr 1
  cases h : p n with
  | true => rw [List.filter_cons_of_pos h]; rfl
  | false => rw [List.filter_cons_of_neg (by rw [h]; simp)]; rfl

end Go.Proofs.Yteaglkpplgbpaaa.P
namespace Go.Proofs.Yteaglkpplgbpaaa.P
open Go.RowKit Go.Proofs.YteaglkpplgbpaaaW.PrintWords Go.Proofs.YteaglkpplgbpaaaW.PrintLast Go.Proofs.YteaglkpplgbpaaaW.PrintMore
attribute [local go_sem] max2_int min2_int max_two min_two max_three min_three max_four min_four   -- for this text's walks alone
set_option linter.unusedVariables false
set_option linter.unusedSimpArgs false

inductive Conn (R : Nat → Nat → Prop) (a : Nat) : Nat → Prop
 | refl : Conn R a a
 | step {b c : Nat} : Conn R a b → R b c → Conn R a c
theorem Conn.trans {R : Nat → Nat → Prop} {a b c : Nat} (h : Conn R a b) (h2 : Conn R b c) : Conn R a c := by
 induction h2 with
 | refl => exact h
 | step _ h4 ih => exact ih.step h4
theorem Conn.symm {R : Nat → Nat → Prop} (hs : ∀ a b, R a b → R b a) {a b : Nat} (h : Conn R a b) : Conn R b a := by
 induction h with
 | refl => exact .refl
 | step _ h4 ih => exact Conn.trans (.step .refl (hs _ _ h4)) ih
theorem Conn.mono {R S : Nat → Nat → Prop} (hs : ∀ a b, R a b → S a b) {a b : Nat} (h : Conn R a b) : Conn S a b := by
 induction h with
 | refl => exact .refl
 | step _ h4 ih => exact ih.step (hs _ _ h4)
def AdjM (B : Nat → Nat × Nat) (m M : Nat) (a b : Nat) : Prop := ∃ k, k < M ∧ m.testBit k = false ∧ (B k = (a, b) ∨ B k = (b, a))
theorem AdjM.symm {B : Nat → Nat × Nat} {m M a b : Nat} (h : AdjM B m M a b) : AdjM B m M b a := by
 obtain ⟨k, h1, h2, h3⟩ := h
 exact ⟨k, h1, h2, h3.symm⟩
def stepF (B : Nat → Nat × Nat) (m : Nat) (f : Nat → Nat) (k : Nat) : Nat → Nat :=
 if m.testBit k = true then f else fun v => if v = (B k).2 then min (f (B k).1) (f (B k).2) else if v = (B k).1 then min (f (B k).1) (f (B k).2) else f v
def rndF (B : Nat → Nat × Nat) (m : Nat) (f : Nat → Nat) : Nat → Nat → Nat
 | 0 => f
 | k + 1 => stepF B m (rndF B m f k) k
def labF (B : Nat → Nat × Nat) (m M : Nat) : Nat → Nat → Nat
 | 0 => fun v => v
 | i + 1 => rndF B m (labF B m M i) M
theorem exists_least {P : Nat → Prop} {x : Nat} (h : P x) : ∃ y, P y ∧ ∀ z, P z → y ≤ z := by
 induction x using Nat.strongRecOn with
 | ind x ih =>
  by_cases hc : ∃ z, z < x ∧ P z
  ·obtain ⟨z, h1, h2⟩ := hc
   exact ih z h1 h2
  ·exact ⟨x, h, fun z hz => by
    rcases Nat.lt_or_ge z x with h3 | h3
    ·exact absurd ⟨z, h3, hz⟩ hc
    ·exact h3⟩
theorem countP_more {l : List Nat} {p q : Nat → Bool} (h : ∀ x ∈ l, p x = true → q x = true) {y : Nat} (hy : y ∈ l) (h1 : p y = false) (h2 : q y = true) : l.countP p < l.countP q := by
 induction l with
 | nil => cases hy
 | cons z r ih =>
  rw [List.countP_cons, List.countP_cons]
  have hr : r.countP p ≤ r.countP q := List.countP_mono_left (fun x hx hp => h x (List.mem_cons_of_mem _ hx) hp)
  rcases List.mem_cons.1 hy with rfl | hy
  ·rw [h1, h2]
   simp
   omega
  ·have := ih (fun x hx => h x (List.mem_cons_of_mem _ hx)) hy
   by_cases hp : p z = true
   ·rw [hp, h z List.mem_cons_self hp]
    simp
    omega
   ·rw [if_neg hp]
    split <;> omega
section
variable {B : Nat → Nat × Nat} {m M n : Nat}
def LabJ (B : Nat → Nat × Nat) (m M n : Nat) (f : Nat → Nat) : Prop := ∀ v, v ≤ n → f v ≤ v ∧ Conn (AdjM B m M) v (f v)
theorem stepJ (hB : ∀ k, k < M → (B k).1 ≤ n ∧ (B k).2 ≤ n) {f : Nat → Nat} (J : LabJ B m M n f) {k : Nat} (hk : k < M) : LabJ B m M n (stepF B m f k) := by
 intro v hv
 unfold stepF
 by_cases hm : m.testBit k = true
 ·rw [if_pos hm]
  exact J v hv
 ·rw [if_neg hm]
  have hm2 : m.testBit k = false := by simpa using hm
  have hA := J _ (hB k hk).1
  have hC := J _ (hB k hk).2
  have ad : AdjM B m M (B k).1 (B k).2 := ⟨k, hk, hm2, .inl rfl⟩
  have c1 : Conn (AdjM B m M) (B k).1 (min (f (B k).1) (f (B k).2)) := by
   rcases Nat.le_total (f (B k).1) (f (B k).2) with h | h
   ·rw [Nat.min_eq_left h]; exact hA.2
   ·rw [Nat.min_eq_right h]; exact Conn.trans (.step .refl ad) hC.2
  (try dsimp only)
  by_cases h2 : v = (B k).2
  ·rw [if_pos h2, h2]
   exact ⟨Nat.le_trans (Nat.min_le_right _ _) hC.1, Conn.trans (.step .refl ad.symm) c1⟩
  ·rw [if_neg h2]
   by_cases h1 : v = (B k).1
   ·rw [if_pos h1, h1]
    exact ⟨Nat.le_trans (Nat.min_le_left _ _) hA.1, c1⟩
   ·rw [if_neg h1]
    exact J v hv
theorem rndJ (hB : ∀ k, k < M → (B k).1 ≤ n ∧ (B k).2 ≤ n) {f : Nat → Nat} (J : LabJ B m M n f) : ∀ k, k ≤ M → LabJ B m M n (rndF B m f k)
 | 0, _ => J
 | k + 1, hk => stepJ hB (rndJ hB J k (by omega)) (by omega)
theorem labJ (hB : ∀ k, k < M → (B k).1 ≤ n ∧ (B k).2 ≤ n) : ∀ i, LabJ B m M n (labF B m M i)
 | 0 => fun v _ => ⟨Nat.le_refl _, .refl⟩
 | i + 1 => rndJ hB (labJ hB i) M (Nat.le_refl _)
def Root (B : Nat → Nat × Nat) (m M : Nat) (r : Nat) : Prop := ∀ u, Conn (AdjM B m M) r u → r ≤ u
theorem keepF (hB : ∀ k, k < M → (B k).1 ≤ n ∧ (B k).2 ≤ n) {f : Nat → Nat} (J : LabJ B m M n f) {r : Nat} (hr : Root B m M r) {k : Nat} (hk : k < M) {v : Nat} (hv : v ≤ n) (h : f v = r) : stepF B m f k v = r := by
 unfold stepF
 by_cases hm : m.testBit k = true
 ·rw [if_pos hm]; exact h
 ·rw [if_neg hm]
  have hm2 : m.testBit k = false := by simpa using hm
  have hA := J _ (hB k hk).1
  have hC := J _ (hB k hk).2
  have ad : AdjM B m M (B k).1 (B k).2 := ⟨k, hk, hm2, .inl rfl⟩
  (try dsimp only)
  by_cases h2 : v = (B k).2
  ·rw [if_pos h2]
   rw [h2] at h
   rw [h] at hC ⊢
   have c := (hC.2.symm fun _ _ => AdjM.symm).trans (Conn.trans (.step .refl ad.symm) hA.2)
   exact Nat.min_eq_right (hr _ c)
  ·rw [if_neg h2]
   by_cases h1 : v = (B k).1
   ·rw [if_pos h1]
    rw [h1] at h
    rw [h] at hA ⊢
    have c := (hA.2.symm fun _ _ => AdjM.symm).trans (Conn.trans (.step .refl ad) hC.2)
    exact Nat.min_eq_left (hr _ c)
   ·rw [if_neg h1]; exact h
theorem keepR (hB : ∀ k, k < M → (B k).1 ≤ n ∧ (B k).2 ≤ n) {f : Nat → Nat} (J : LabJ B m M n f) {r : Nat} (hr : Root B m M r) {v : Nat} (hv : v ≤ n) (h : f v = r) : ∀ k, k ≤ M → rndF B m f k v = r
 | 0, _ => h
 | k + 1, hk => keepF hB (rndJ hB J k (by omega)) hr (by omega) hv (keepR hB J hr hv h k (by omega))
theorem growR (hB : ∀ k, k < M → (B k).1 ≤ n ∧ (B k).2 ≤ n) {f : Nat → Nat} (J : LabJ B m M n f) {r : Nat} (hr : Root B m M r) {j : Nat} (hm : m.testBit j = false) (h : f (B j).1 = r ∨ f (B j).2 = r) : ∀ k, k ≤ M → j < k → rndF B m f k (B j).1 = r ∧ rndF B m f k (B j).2 = r := by
 intro k
 induction k with
 | zero => intro _ h2; omega
 | succ k ih =>
  intro hk hj
  have J2 := rndJ hB J k (by omega)
  have hbj := hB j (by omega)
  by_cases hjk : j = k
  ·subst hjk
   have hA := J2 _ hbj.1
   have hC := J2 _ hbj.2
   have ad : AdjM B m M (B j).1 (B j).2 := ⟨j, by omega, hm, .inl rfl⟩
   have hmin : min (rndF B m f j (B j).1) (rndF B m f j (B j).2) = r := by
    rcases h with h | h
    ·have h' := keepR hB J hr hbj.1 h j (by omega)
     rw [h'] at hA ⊢
     have c := (hA.2.symm fun _ _ => AdjM.symm).trans (Conn.trans (.step .refl ad) hC.2)
     exact Nat.min_eq_left (hr _ c)
    ·have h' := keepR hB J hr hbj.2 h j (by omega)
     rw [h'] at hC ⊢
     have c := (hC.2.symm fun _ _ => AdjM.symm).trans (Conn.trans (.step .refl ad.symm) hA.2)
     exact Nat.min_eq_right (hr _ c)
   show stepF B m (rndF B m f j) j (B j).1 = r ∧ stepF B m (rndF B m f j) j (B j).2 = r
   unfold stepF
   rw [if_neg (by rw [hm]; simp)]
   (try dsimp only)
   rw [if_pos rfl, if_pos rfl, hmin]
   refine ⟨?_, rfl⟩
   split <;> rfl
  ·obtain ⟨h1, h2⟩ := ih (by omega) (by omega)
   exact ⟨keepF hB J2 hr (by omega) hbj.1 h1, keepF hB J2 hr (by omega) hbj.2 h2⟩
theorem conn_le (hB : ∀ k, k < M → (B k).1 ≤ n ∧ (B k).2 ≤ n) {a b : Nat} (ha : a ≤ n) (h : Conn (AdjM B m M) a b) : b ≤ n := by
 cases h with
 | refl => exact ha
 | step _ h2 =>
  obtain ⟨k, h1, -, h3⟩ := h2
  have := hB k h1
  rcases h3 with h3 | h3 <;> rw [h3] at this <;> simp only at this <;> omega
theorem edge_out {R : Nat → Nat → Prop} {P : Nat → Prop} {a b : Nat} (h : Conn R a b) (ha : P a) (hb : ¬ P b) : ∃ p q, Conn R a p ∧ R p q ∧ P p ∧ ¬ P q := by
 induction h with
 | refl => exact absurd ha hb
 | step h1 h2 ih =>
  rename_i p q
  by_cases hp : P p
  ·exact ⟨p, q, h1, h2, hp, hb⟩
  ·exact ih hp
theorem fullOr (hB : ∀ k, k < M → (B k).1 ≤ n ∧ (B k).2 ≤ n) {r : Nat} (hrn : r ≤ n) (hr : Root B m M r) : ∀ i, (∀ v, Conn (AdjM B m M) r v → labF B m M i v = r) ∨ i + 1 ≤ (List.range (n + 1)).countP fun v => labF B m M i v == r := by
 have self : ∀ i, labF B m M i r = r := fun i => by
  have := labJ (m := m) hB i r hrn
  have := hr _ this.2
  omega
 intro i
 induction i with
 | zero =>
  right
  have : 0 < (List.range (n + 1)).countP fun v => labF B m M 0 v == r := List.countP_pos_iff.2 ⟨r, List.mem_range.2 (by omega), by simp [labF]⟩
  omega
 | succ i ih =>
  have J := labJ (m := m) (M := M) (B := B) hB i
  rcases ih with ih | ih
  ·exact .inl fun v hv => keepR hB J hr (conn_le hB hrn hv) (ih v hv) M (Nat.le_refl _)
  ·by_cases hf : ∀ v, Conn (AdjM B m M) r v → labF B m M i v = r
   ·exact .inl fun v hv => keepR hB J hr (conn_le hB hrn hv) (hf v hv) M (Nat.le_refl _)
   ·right
    obtain ⟨v, hv⟩ := Classical.not_forall.1 hf
    obtain ⟨hv1, hv2⟩ := Classical.not_imp.1 hv
    obtain ⟨p, q, h1, h2, h3, h4⟩ := edge_out (P := fun x => labF B m M i x = r) hv1 (self i) hv2
    have hq : q ≤ n := conn_le hB hrn (h1.step h2)
    obtain ⟨k, hk, hm, hBk⟩ := h2
    have hg := growR hB J hr hm (by
     rcases hBk with e | e <;> rw [e]
     ·exact .inl h3
     ·exact .inr h3) M (Nat.le_refl _) hk
    have hq2 : labF B m M (i + 1) q = r := by
     show rndF B m (labF B m M i) M q = r
     rcases hBk with e | e <;> rw [e] at hg
     ·exact hg.2
     ·exact hg.1
    have := countP_more (l := List.range (n + 1)) (p := fun v => labF B m M i v == r) (q := fun v => labF B m M (i + 1) v == r) (fun x hx hp => by
     rw [beq_iff_eq] at hp ⊢
     exact keepR hB J hr (by have := List.mem_range.1 hx; omega) hp M (Nat.le_refl _)) (y := q) (List.mem_range.2 (by omega)) (by simpa using h4) (by simpa using hq2)
    omega
structure Lab (B : Nat → Nat × Nat) (m M n : Nat) (f : Nat → Nat) : Prop where
 low : ∀ v, v ≤ n → f v ≤ v
 conn : ∀ v, v ≤ n → Conn (AdjM B m M) v (f v)
 same : ∀ u v, u ≤ n → Conn (AdjM B m M) u v → f u = f v
theorem lab_done (hB : ∀ k, k < M → (B k).1 ≤ n ∧ (B k).2 ≤ n) : Lab B m M n (labF B m M (n + 1)) where
 low v hv := (labJ hB _ v hv).1
 conn v hv := (labJ hB _ v hv).2
 same u v hu huv := by
  obtain ⟨r, h1, h2⟩ := exists_least (P := fun x => Conn (AdjM B m M) u x) .refl
  have hr : Root B m M r := fun x hx => h2 x (h1.trans hx)
  have hrn : r ≤ n := conn_le hB hu h1
  have hfull : ∀ v, Conn (AdjM B m M) r v → labF B m M (n + 1) v = r := by
   rcases fullOr hB hrn hr (n + 1) with h | h
   ·exact h
   ·have := List.countP_le_length (p := fun v => labF B m M (n + 1) v == r) (l := List.range (n + 1))
    rw [List.length_range] at this
    omega
  have c := h1.symm fun _ _ => AdjM.symm
  rw [hfull u c, hfull v (c.trans huv)]
end
def labOut (f : Nat → Nat) (n : Nat) : List (List Int) := ((List.range n).filter fun v => f v == v && f n != v).map fun v => setL n fun u => f u == v

end Go.Proofs.Yteaglkpplgbpaaa.P
namespace Go.Proofs.Yteaglkpplgbpaaa.P
open Go.RowKit Go.Proofs.YteaglkpplgbpaaaW.PrintWords Go.Proofs.YteaglkpplgbpaaaW.PrintLast Go.Proofs.YteaglkpplgbpaaaW.PrintMore
attribute [local go_sem] max2_int min2_int max_two min_two max_three min_three max_four min_four   -- for this text's walks alone
set_option linter.unusedVariables false
set_option linter.unusedSimpArgs false

def besN (w h k : Nat) : Nat × Nat := match impl_grid_beside.f (w : Int) (h : Int) (k : Int) with
  | some (a, b) => (if a < 0 then w * h else a.toNat, if b < 0 then w * h else b.toNat)
  | none => (0, 0)
def edgN (w h : Nat) : Nat := w * (h + 1) + h * (w + 1)
def dirE (w h c d : Nat) : Nat := if d = 0 then c / w * w + c % w else if d = 1 then w * (h + 1) + (c / w * (w + 1) + (c % w + 1)) else if d = 2 then (c / w + 1) * w + c % w else w * (h + 1) + (c / w * (w + 1) + c % w)
def dirN (w h c d : Nat) : Nat := if d = 0 then (if c / w = 0 then w * h else c - w) else if d = 1 then (if c % w + 1 = w then w * h else c + 1) else if d = 2 then (if c / w + 1 = h then w * h else c + w) else (if c % w = 0 then w * h else c - 1)
def endB (w h k : Nat) (a b : Nat) : Bool := decide (w * h ≤ a) || (List.range 4).any fun d => dirE w h a d == k && dirN w h a d == b
def besB (w h k : Nat) : Bool := match impl_grid_beside.f (w : Int) (h : Int) (k : Int) with
  | some (a, b) => decide (a < (w * h : Nat)) && decide (b < (w * h : Nat)) && endB w h k (besN w h k).1 (besN w h k).2 && endB w h k (besN w h k).2 (besN w h k).1
  | none => false
def dirB (w h c d : Nat) : Bool := decide (dirE w h c d < edgN w h) && decide (dirN w h c d ≤ w * h) && (besN w h (dirE w h c d) == (c, dirN w h c d) || besN w h (dirE w h c d) == (dirN w h c d, c))
def rgB (w h : Nat) : Bool := ((List.range (edgN w h)).all fun k => besB w h k) && (List.range (w * h)).all fun c => (List.range 4).all fun d => dirB w h c d
theorem rgB_11 : rgB 1 1 = true := by decide +kernel
theorem rgB_12 : rgB 1 2 = true := by decide +kernel
theorem rgB_13 : rgB 1 3 = true := by decide +kernel
theorem rgB_14 : rgB 1 4 = true := by decide +kernel
theorem rgB_21 : rgB 2 1 = true := by decide +kernel
theorem rgB_22 : rgB 2 2 = true := by decide +kernel
theorem rgB_23 : rgB 2 3 = true := by decide +kernel
theorem rgB_24 : rgB 2 4 = true := by decide +kernel
theorem rgB_31 : rgB 3 1 = true := by decide +kernel
theorem rgB_32 : rgB 3 2 = true := by decide +kernel
theorem rgB_33 : rgB 3 3 = true := by decide +kernel
theorem rgB_34 : rgB 3 4 = true := by decide +kernel
theorem rgB_41 : rgB 4 1 = true := by decide +kernel
theorem rgB_42 : rgB 4 2 = true := by decide +kernel
theorem rgB_43 : rgB 4 3 = true := by decide +kernel
theorem rgB_44 : rgB 4 4 = true := by decide +kernel
theorem rgB_all (w h : Nat) (h1 : 1 ≤ w) (h2 : w ≤ 4) (h3 : 1 ≤ h) (h4 : h ≤ 4) : rgB w h = true := by
  have cw : w = 1 ∨ w = 2 ∨ w = 3 ∨ w = 4 := by omega
  have ch : h = 1 ∨ h = 2 ∨ h = 3 ∨ h = 4 := by omega
  rcases cw with rfl | rfl | rfl | rfl <;> rcases ch with rfl | rfl | rfl | rfl
  · exact rgB_11
  · exact rgB_12
  · exact rgB_13
  · exact rgB_14
  · exact rgB_21
  · exact rgB_22
  · exact rgB_23
  · exact rgB_24
  · exact rgB_31
  · exact rgB_32
  · exact rgB_33
  · exact rgB_34
  · exact rgB_41
  · exact rgB_42
  · exact rgB_43
  · exact rgB_44
structure Grid4 (w h : Nat) : Prop where
  w1 : 1 ≤ w
  w4 : w ≤ 4
  h1 : 1 ≤ h
  h4 : h ≤ 4
theorem besI {w h : Nat} (g : Grid4 w h) {k : Nat} (hk : k < edgN w h) : ∃ a b : Int, impl_grid_beside.f (w : Int) (h : Int) (k : Int) = some (a, b) ∧ a < (w * h : Nat) ∧ b < (w * h : Nat) ∧ besN w h k = (if a < 0 then w * h else a.toNat, if b < 0 then w * h else b.toNat) := by
  have H := rgB_all w h g.w1 g.w4 g.h1 g.h4
  unfold rgB at H
  rw [Bool.and_eq_true, List.all_eq_true] at H
  have H1 := H.1 k (List.mem_range.2 hk)
  unfold besB at H1
  have e : ∀ x, impl_grid_beside.f (w : Int) (h : Int) (k : Int) = x → besN w h k = match x with
    | some (a, b) => (if a < 0 then w * h else a.toNat, if b < 0 then w * h else b.toNat)
    | none => (0, 0) := fun x hx => by unfold besN; rw [hx]
  cases hx : impl_grid_beside.f (w : Int) (h : Int) (k : Int) with
  | none => rw [hx] at H1; cases H1
  | some p =>
    obtain ⟨a, b⟩ := p
    rw [hx] at H1
    simp only [Bool.and_eq_true, decide_eq_true_eq] at H1
    exact ⟨a, b, rfl, H1.1.1.1, H1.1.1.2, e _ hx⟩
theorem besLe {w h : Nat} (g : Grid4 w h) : ∀ k, k < edgN w h → (besN w h k).1 ≤ w * h ∧ (besN w h k).2 ≤ w * h := by
  intro k hk
  obtain ⟨a, b, -, h2, h3, h4⟩ := besI g hk
  rw [h4]
  dsimp only
  constructor
  · split <;> omega
  · split <;> omega
theorem dirF {w h : Nat} (g : Grid4 w h) {c d : Nat} (hc : c < w * h) (hd : d < 4) : dirE w h c d < edgN w h ∧ dirN w h c d ≤ w * h ∧ (besN w h (dirE w h c d) = (c, dirN w h c d) ∨ besN w h (dirE w h c d) = (dirN w h c d, c)) := by
  have H := rgB_all w h g.w1 g.w4 g.h1 g.h4
  unfold rgB at H
  rw [Bool.and_eq_true, List.all_eq_true, List.all_eq_true] at H
  have H1 := H.2 c (List.mem_range.2 hc)
  rw [List.all_eq_true] at H1
  have H2 := H1 d (List.mem_range.2 hd)
  unfold dirB at H2
  simp only [Bool.and_eq_true, decide_eq_true_eq, Bool.or_eq_true, beq_iff_eq] at H2
  exact ⟨H2.1.1, H2.1.2, H2.2⟩
theorem dirAdj {w h m : Nat} (g : Grid4 w h) {a b : Nat} (ha : a < w * h) : AdjM (besN w h) m (edgN w h) a b ↔ ∃ d, d < 4 ∧ m.testBit (dirE w h a d) = false ∧ dirN w h a d = b := by
  constructor
  · rintro ⟨k, hk, hm, hB⟩
    have H := rgB_all w h g.w1 g.w4 g.h1 g.h4
    unfold rgB at H
    rw [Bool.and_eq_true, List.all_eq_true] at H
    have H1 := H.1 k (List.mem_range.2 hk)
    unfold besB at H1
    cases hx : impl_grid_beside.f (w : Int) (h : Int) (k : Int) with
    | none => rw [hx] at H1; cases H1
    | some p =>
      obtain ⟨x, y⟩ := p
      rw [hx] at H1
      simp only [Bool.and_eq_true, decide_eq_true_eq] at H1
      have H2 : endB w h k a b = true := by
        rcases hB with e | e
        · have := H1.1.2; rw [e] at this; exact this
        · have := H1.2; rw [e] at this; exact this
      unfold endB at H2
      simp only [Bool.or_eq_true, decide_eq_true_eq, List.any_eq_true, Bool.and_eq_true, beq_iff_eq, List.mem_range] at H2
      rcases H2 with H2 | ⟨d, h1, h2, h3⟩
      · omega
      · exact ⟨d, h1, by rw [h2]; exact hm, h3⟩
  · rintro ⟨d, hd, hm, rfl⟩
    obtain ⟨h1, h2, h3⟩ := dirF g ha hd
    exact ⟨_, h1, hm, h3⟩

end Go.Proofs.Yteaglkpplgbpaaa.P
namespace Go.Proofs.Yteaglkpplgbpaaa.P
open Go.RowKit Go.Proofs.YteaglkpplgbpaaaW.PrintWords Go.Proofs.YteaglkpplgbpaaaW.PrintLast Go.Proofs.YteaglkpplgbpaaaW.PrintMore
attribute [local go_sem] max2_int min2_int max_two min_two max_three min_three max_four min_four   -- for this text's walks alone
set_option linter.unusedVariables false
set_option linter.unusedSimpArgs false

def lstF (f : Nat → Nat) (n : Nat) : List Int := (List.range (n + 1)).map fun v => ((f v : Nat) : Int)
theorem lstF_len (f : Nat → Nat) (n : Nat) : (lstF f n).length = n + 1 := by unfold lstF; rw [List.length_map, List.length_range]
theorem lstF_rd (f : Nat → Nat) {n v : Nat} (h : v ≤ n) : rd (lstF f n) (v : Int) = (f v : Int) := by
 unfold rd lstF
 rw [Int.toNat_natCast, List.getD_eq_getElem?_getD, List.getElem?_map, List.getElem?_range (by omega)]
 rfl
theorem lstF_set (f : Nat → Nat) (n a z : Nat) : (lstF f n).set a (z : Int) = lstF (fun v => if v = a then z else f v) n := by
 unfold lstF
 refine List.ext_getElem (by simp) (fun i h1 h2 => ?_)
 rw [List.getElem_set, List.getElem_map, List.getElem_map, List.getElem_range]
 dsimp only
 by_cases h : a = i
 ·rw [if_pos h, if_pos h.symm]
 ·rw [if_neg h, if_neg (fun x : i = a => h x.symm)]
section
attribute [local irreducible] lstF setL
theorem bit_shr {M e : Nat} (hM : M < 2 ^ 60) (he : e < 60) : (Go.bits .and .u64 (shr .u64 (M : Int) (e : Int)) 1 = 1) ↔ M.testBit e = true := by
 have e2 : shr .u64 (M : Int) (e : Int) = ((M >>> e : Nat) : Int) := by
  unfold shr
  rw [Int.toNat_natCast, Nat.min_eq_left (show e ≤ IntKind.u64.bits by have : IntKind.u64.bits = 64 := rfl; omega), Nat.shiftRight_eq_div_pow]
  exact_mod_cast rfl
 have hs : M >>> e < 2 ^ 60 := Nat.lt_of_le_of_lt (by rw [Nat.shiftRight_eq_div_pow]; exact Nat.div_le_self _ _) hM
 have h := and_u64 (M >>> e) 1 hs (by decide)
 rw [e2, show (1 : Int) = ((1 : Nat) : Int) from rfl, h, Nat.and_one_is_mod]
 unfold Nat.testBit
 rw [Nat.and_comm, Nat.and_one_is_mod]
 have : M >>> e % 2 < 2 := Nat.mod_lt _ (by decide)
 generalize M >>> e % 2 = q at this ⊢
 have hq : q = 0 ∨ q = 1 := by omega
 rcases hq with rfl | rfl <;> simp
theorem mn_nat (a b : Nat) : mn (a : Int) (b : Int) = ((min a b : Nat) : Int) := by
 unfold mn
 rw [Nat.min_def]
 by_cases h : a ≤ b
 ·rw [if_neg (by omega), if_pos h]
 ·rw [if_pos (by omega), if_neg h]
def stepG (m : Nat) (f : Nat → Nat) (k A C : Nat) : Nat → Nat := if m.testBit k = true then f else fun v => if v = C then min (f A) (f C) else if v = A then min (f A) (f C) else f v
theorem rg_j3 {m n : Nat} (hm : m < 2 ^ 60) (hn : n ≤ 16) (f : Nat → Nat) {e A C : Nat} (he : e < 60) (hA : A ≤ n) (hC : C ≤ n) (x12 : Int) (hx : (x12 < 0 ∧ C = n) ∨ x12 = (C : Int)) (k : Nat) (x36 x37 x43 x44 w h : Int) :
  impl_grid_regions.j3 (k + 1) (m : Int) true (n : Int) (lstF f n) (e : Int) (A : Int) x12 x36 x37 x43 x44 w h = impl_grid_regions.l2 k (m : Int) true (n : Int) (lstF (stepG m f e A C) n) x36 x37 x43 (wrap64 (x44 + 1)) w h := by
 have hl := lstF_len f n
 have hstep : ¬ m.testBit e = true → ((lstF f n).set A (mn (rd (lstF f n) (A : Int)) (rd (lstF f n) (C : Int)))).set C (mn (rd (lstF f n) (A : Int)) (rd (lstF f n) (C : Int))) = lstF (stepG m f e A C) n := by
  intro hb
  rw [lstF_rd f hA, lstF_rd f hC, mn_nat, lstF_set, lstF_set]
  unfold stepG
  rw [if_neg hb]
 have hbit := bit_shr hm he
 rcases hx with ⟨hx, rfl⟩ | rfl
 ·rw [impl_grid_regions.j3, if_pos hx, if_pos (by omega)]
  by_cases hb : m.testBit e = true
  ·rw [if_pos (hbit.2 hb)]
   unfold stepG
   rw [if_pos hb]
  ·rw [if_neg (fun q => hb (hbit.1 q)), if_pos rfl, if_pos (by omega), if_pos (by omega), if_pos (by omega), if_pos (by omega), Int.toNat_natCast, Int.toNat_natCast, hstep hb]
 ·rw [impl_grid_regions.j3, if_neg (by omega), if_pos (by omega)]
  by_cases hb : m.testBit e = true
  ·rw [if_pos (hbit.2 hb)]
   unfold stepG
   rw [if_pos hb]
  ·rw [if_neg (fun q => hb (hbit.1 q)), if_pos rfl, if_pos (by omega), if_pos (by omega), if_pos (by omega), if_pos (by omega), Int.toNat_natCast, Int.toNat_natCast, hstep hb]
theorem edgN_le {w h : Nat} (g : Grid4 w h) : edgN w h ≤ 40 ∧ w * h ≤ 16 := by
 obtain ⟨w1, w4, h1, h4⟩ := g
 have cw : w = 1 ∨ w = 2 ∨ w = 3 ∨ w = 4 := by omega
 have ch : h = 1 ∨ h = 2 ∨ h = 3 ∨ h = 4 := by omega
 unfold edgN
 rcases cw with rfl | rfl | rfl | rfl <;> rcases ch with rfl | rfl | rfl | rfl <;> omega
attribute [local irreducible] edgN
theorem rg_l2 {w h m : Nat} (g : Grid4 w h) (hm : m < 2 ^ 60) (f : Nat → Nat) (x36 x37 : Int) : ∀ (d k e : Nat), edgN w h - e = d → e ≤ edgN w h → 2 * d + 1 ≤ k →
  ∃ k', k ≤ k' + (2 * d + 1) ∧ impl_grid_regions.l2 k (m : Int) true ((w * h : Nat) : Int) (lstF (rndF (besN w h) m f e) (w * h)) x36 x37 ((edgN w h : Nat) : Int) (e : Int) (w : Int) (h : Int) = impl_grid_regions.l1 k' (m : Int) true ((w * h : Nat) : Int) (lstF (rndF (besN w h) m f (edgN w h)) (w * h)) x36 (wrap64 (x37 + 1)) (w : Int) (h : Int) := by
 obtain ⟨hM, hn⟩ := edgN_le g
 intro d
 induction d with
 | zero =>
  intro k e h1 h2 h3
  obtain ⟨k, rfl⟩ : ∃ q, k = q + 1 := ⟨k - 1, by omega⟩
  have : e = edgN w h := by omega
  subst this
  refine ⟨k, by omega, ?_⟩
  rw [impl_grid_regions.l2, if_neg (by omega)]
 | succ d ih =>
  intro k e h1 h2 h3
  obtain ⟨k, rfl⟩ : ∃ q, k = q + 2 := ⟨k - 2, by omega⟩
  have hlt : (e : Int) < ((edgN w h : Nat) : Int) := by omega
  have hel : e < edgN w h := by omega
  have he60 : e < 60 := by omega
  have e1 : wrap64 ((e : Int) + 1) = ((e + 1 : Nat) : Int) := by unfold wrap64; omega
  obtain ⟨k', hk1, hk2⟩ := ih k (e + 1) (by omega) (by omega) (by omega)
  refine ⟨k', by omega, ?_⟩
  clear ih h1 h2 h3 hk1
  obtain ⟨a, b, q1, q2, q3, q4⟩ := besI g hel
  have hle := besLe g e hel
  rw [← hk2]
  have key : ∀ x11 x12 : Int, x11 = ((besN w h e).1 : Int) → ((x12 < 0 ∧ (besN w h e).2 = w * h) ∨ x12 = ((besN w h e).2 : Int)) →
    impl_grid_regions.j3 (k + 1) (m : Int) true ((w * h : Nat) : Int) (lstF (rndF (besN w h) m f e) (w * h)) (e : Int) x11 x12 x36 x37 ((edgN w h : Nat) : Int) (e : Int) (w : Int) (h : Int) = impl_grid_regions.l2 k (m : Int) true ((w * h : Nat) : Int) (lstF (rndF (besN w h) m f (e + 1)) (w * h)) x36 x37 ((edgN w h : Nat) : Int) ((e + 1 : Nat) : Int) (w : Int) (h : Int) := by
   intro x11 x12 hx1 hx2
   rw [hx1, rg_j3 hm hn _ he60 hle.1 hle.2 x12 hx2 k, e1]
   rfl
  rw [impl_grid_regions.l2, if_pos hlt, q1, Option.bind_some]
  have hb2 : (b < 0 ∧ (besN w h e).2 = w * h) ∨ b = ((besN w h e).2 : Int) := by
   rw [q4]
   dsimp only
   by_cases hb : b < 0
   ·rw [if_pos hb]; exact .inl ⟨hb, rfl⟩
   ·rw [if_neg hb]; exact .inr (Int.toNat_of_nonneg (Int.not_lt.1 hb)).symm
  dsimp only
  by_cases ha : a < 0
  ·rw [if_pos ha]
   exact key _ _ (by rw [q4]; dsimp only; rw [if_pos ha]) hb2
  ·rw [if_neg ha]
   exact key _ _ (by rw [q4]; dsimp only; rw [if_neg ha]; exact (Int.toNat_of_nonneg (Int.not_lt.1 ha)).symm) hb2
theorem rg_M {w h : Nat} (g : Grid4 w h) : ∃ a b : Int, impl_grid_levels.f (w : Int) (h : Int) = some a ∧ impl_grid_uprights.f (w : Int) (h : Int) = some b ∧ wrap64 (a + b) = ((edgN w h : Nat) : Int) := by
 obtain ⟨w1, w4, h1, h4⟩ := g
 have cw : w = 1 ∨ w = 2 ∨ w = 3 ∨ w = 4 := by omega
 have ch : h = 1 ∨ h = 2 ∨ h = 3 ∨ h = 4 := by omega
 unfold impl_grid_levels.f impl_grid_uprights.f edgN
 rcases cw with rfl | rfl | rfl | rfl <;> rcases ch with rfl | rfl | rfl | rfl <;> exact ⟨_, _, rfl, rfl, by decide +kernel⟩
theorem rg_l1 {w h m : Nat} (g : Grid4 w h) (hm : m < 2 ^ 60) : ∀ (d k i : Nat), w * h + 1 - i = d → i ≤ w * h + 1 → 100 * d + 1 ≤ k →
  ∃ k', k ≤ k' + (100 * d + 1) ∧ impl_grid_regions.l1 k (m : Int) true ((w * h : Nat) : Int) (lstF (labF (besN w h) m (edgN w h) i) (w * h)) ((w * h + 1 : Nat) : Int) (i : Int) (w : Int) (h : Int) = impl_grid_regions.l3 k' true ((w * h : Nat) : Int) (lstF (labF (besN w h) m (edgN w h) (w * h + 1)) (w * h)) ([] : List (List Int)) ((w * h : Nat) : Int) 0 := by
 obtain ⟨hM, hn⟩ := edgN_le g
 intro d
 induction d with
 | zero =>
  intro k i h1 h2 h3
  obtain ⟨k, rfl⟩ : ∃ q, k = q + 1 := ⟨k - 1, by omega⟩
  have : i = w * h + 1 := by omega
  subst this
  refine ⟨k, by omega, ?_⟩
  rw [impl_grid_regions.l1, if_neg (by omega)]
 | succ d ih =>
  intro k i h1 h2 h3
  obtain ⟨k, rfl⟩ : ∃ q, k = q + 1 := ⟨k - 1, by omega⟩
  obtain ⟨a, b, q1, q2, q3⟩ := rg_M g
  have e1 : wrap64 ((i : Int) + 1) = ((i + 1 : Nat) : Int) := by unfold wrap64; omega
  obtain ⟨k', p1, p2⟩ := rg_l2 g hm (labF (besN w h) m (edgN w h) i) ((w * h + 1 : Nat) : Int) (i : Int) (edgN w h) k 0 (by omega) (by omega) (by omega)
  obtain ⟨k2, p3, p4⟩ := ih k' (i + 1) (by omega) (by omega) (by omega)
  refine ⟨k2, by omega, ?_⟩
  rw [impl_grid_regions.l1, if_pos (by omega), q1, Option.bind_some, q2, Option.bind_some, q3]
  rw [e1] at p2
  exact p2.trans p4
theorem rg_l0 (m w h : Int) (n : Nat) (hn : n ≤ 16) : ∀ (d k i : Nat), n + 1 - i = d → i ≤ n + 1 → d + 1 ≤ k →
  ∃ k', k ≤ k' + (d + 1) ∧ impl_grid_regions.l0 k m true (n : Int) ((List.range i).map fun v : Nat => (v : Int)) ((n + 1 : Nat) : Int) (i : Int) w h = impl_grid_regions.l1 k' m true (n : Int) (lstF (fun v => v) n) ((n + 1 : Nat) : Int) 0 w h := by
 intro d
 induction d with
 | zero =>
  intro k i h1 h2 h3
  obtain ⟨k, rfl⟩ : ∃ q, k = q + 1 := ⟨k - 1, by omega⟩
  have : i = n + 1 := by omega
  subst this
  refine ⟨k, by omega, ?_⟩
  rw [impl_grid_regions.l0, if_neg (by omega)]
  have e9 : wrap64 ((n : Int) + 1) = ((n + 1 : Nat) : Int) := by unfold wrap64; omega
  rw [e9]
  unfold lstF
  rfl
 | succ d ih =>
  intro k i h1 h2 h3
  obtain ⟨k, rfl⟩ : ∃ q, k = q + 1 := ⟨k - 1, by omega⟩
  obtain ⟨k', p1, p2⟩ := ih k (i + 1) (by omega) (by omega) (by omega)
  have e1 : wrap64 ((i : Int) + 1) = ((i + 1 : Nat) : Int) := by unfold wrap64; omega
  refine ⟨k', by omega, ?_⟩
  rw [impl_grid_regions.l0, if_pos (by omega), if_pos (by rw [List.length_map, List.length_range]; omega), e1, ← p2, List.range_succ, List.map_append]
  rfl
def outQ (f : Nat → Nat) (n i : Nat) : List (List Int) := ((List.range i).filter fun v => !(setL n fun u => f u == v).isEmpty && f n != v).map fun v => setL n fun u => f u == v
theorem rg_l4 (f : Nat → Nat) {n : Nat} (hn : n ≤ 16) (out : List (List Int)) (hout : out.length ≤ 16) (v : Nat) (hv : v ≤ n) : ∀ (d k i : Nat), n - i = d → i ≤ n → d + 1 ≤ k →
  ∃ k', k ≤ k' + (d + 1) ∧ impl_grid_regions.l4 k true (n : Int) (lstF f n) out (v : Int) (setL i fun u => f u == v) (n : Int) (v : Int) ((lstF f n).take n) (n : Int) (i : Int) = impl_grid_regions.l3 k' true (n : Int) (lstF f n) (out ++ if (!(setL n fun u => f u == v).isEmpty && f n != v) = true then [setL n fun u => f u == v] else []) (n : Int) (wrap64 ((v : Int) + 1)) := by
 have hl := lstF_len f n
 have hlt : ((lstF f n).take n).length = n := by rw [List.length_take]; omega
 intro d
 induction d with
 | zero =>
  intro k i h1 h2 h3
  obtain ⟨k, rfl⟩ : ∃ q, k = q + 1 := ⟨k - 1, by omega⟩
  have : i = n := by omega
  subst this
  refine ⟨k, by omega, ?_⟩
  rw [impl_grid_regions.l4, if_neg (by omega)]
  cases hE : setL i (fun u => f u == v) with
  | nil =>
   rw [if_neg (by simp)]
   simp
  | cons a r =>
   rw [if_pos (by rw [List.length_cons]; omega), if_pos rfl, if_pos (by omega), if_pos (by omega), lstF_rd f (Nat.le_refl _)]
   by_cases hq : f i = v
   ·rw [if_pos (by omega)]
    simp [hq]
   ·rw [if_neg (by omega), if_pos (by omega)]
    congr 1
    rw [if_pos (by simp [hq])]
 | succ d ih =>
  intro k i h1 h2 h3
  obtain ⟨k, rfl⟩ : ∃ q, k = q + 1 := ⟨k - 1, by omega⟩
  obtain ⟨k', p1, p2⟩ := ih k (i + 1) (by omega) (by omega) (by omega)
  have hin : i < n := by omega
  refine ⟨k', by omega, ?_⟩
  clear p1 h1 h2 h3 ih
  have hlen := setL_len i (fun u => f u == v)
  have c1 : (i : Int) < (n : Int) := Int.ofNat_lt.2 hin
  have c2 : (0 : Int) ≤ (i : Int) := Int.natCast_nonneg i
  have c3 : (i : Int) < (((lstF f n).take n).length : Int) := by rw [hlt]; exact c1
  have c4 : (setL i fun u => f u == v).length < 17592186044416 := Nat.lt_of_le_of_lt hlen (Nat.lt_of_lt_of_le hin (Nat.le_trans hn (by decide)))
  have hrd : rd ((lstF f n).take n) (i : Int) = (f i : Int) := by
   rw [← lstF_rd f (Nat.le_of_lt hin)]
   unfold rd
   rw [Int.toNat_natCast, List.getD_eq_getElem?_getD, List.getD_eq_getElem?_getD, List.getElem?_take_of_lt hin]
  have e1 : wrap64 ((i : Int) + 1) = ((i + 1 : Nat) : Int) := by clear p2 hrd c4 c3 hlt hl; unfold wrap64; omega
  refine Eq.trans ?_ p2
  rw [setL_succ]
  by_cases hq : f i = v
  ·have hq2 : (f i : Int) = (v : Int) := congrArg _ hq
   have hq3 : (f i == v) = true := by rw [hq]; exact beq_self_eq_true v
   rw [impl_grid_regions.l4, if_pos c1, if_pos c2, if_pos c3, hrd, if_pos hq2, if_pos c4, if_pos hq3, e1]
  ·have hq2 : ¬ (f i : Int) = (v : Int) := fun q => hq (Int.ofNat.inj q)
   have hq3 : ¬ (f i == v) = true := by rw [beq_iff_eq]; exact hq
   rw [impl_grid_regions.l4, if_pos c1, if_pos c2, if_pos c3, hrd, if_neg hq2, if_neg hq3, List.append_nil, e1]
theorem rg_l3 (f : Nat → Nat) {n : Nat} (hn : n ≤ 16) : ∀ (d k i : Nat), n - i = d → i ≤ n → 20 * d + 1 ≤ k →
  impl_grid_regions.l3 k true (n : Int) (lstF f n) (outQ f n i) (n : Int) (i : Int) = some (outQ f n n) := by
 have hl := lstF_len f n
 intro d
 induction d with
 | zero =>
  intro k i h1 h2 h3
  obtain ⟨k, rfl⟩ : ∃ q, k = q + 1 := ⟨k - 1, by omega⟩
  have : i = n := by omega
  subst this
  rw [impl_grid_regions.l3, if_neg (by omega)]
 | succ d ih =>
  intro k i h1 h2 h3
  obtain ⟨k, rfl⟩ : ∃ q, k = q + 1 := ⟨k - 1, by omega⟩
  have e1 : wrap64 ((i : Int) + 1) = ((i + 1 : Nat) : Int) := by unfold wrap64; omega
  have hlt : ((lstF f n).take n).length = n := by rw [List.length_take]; omega
  have hol : (outQ f n i).length ≤ 16 := by
   unfold outQ
   rw [List.length_map]
   have := List.length_filter_le (fun v => !(setL n fun u => f u == v).isEmpty && f n != v) (List.range i)
   rw [List.length_range] at this
   omega
  obtain ⟨k', p1, p2⟩ := rg_l4 f hn (outQ f n i) hol i (by omega) n k 0 (by omega) (by omega) (by omega)
  have hz : (setL 0 fun u => f u == i) = [] := by unfold setL; rfl
  rw [hz] at p2
  rw [impl_grid_regions.l3, if_pos (by omega), if_pos (by omega), if_pos (by omega), Int.toNat_natCast, Option.bind_some, hlt]
  refine p2.trans ?_
  rw [e1]
  have ho : (outQ f n i ++ if (!(setL n fun u => f u == i).isEmpty && f n != i) = true then [setL n fun u => f u == i] else []) = outQ f n (i + 1) := by
   unfold outQ
   rw [List.range_succ, List.filter_append, List.map_append]
   congr 1
   rw [List.filter_cons, List.filter_nil]
   by_cases hq : (!(setL n fun u => f u == i).isEmpty && f n != i) = true
   ·rw [if_pos hq, if_pos hq, List.map_cons, List.map_nil]
   ·rw [if_neg hq, if_neg hq, List.map_nil]
  rw [ho]
  exact ih k' (i + 1) (by omega) (by omega) (by omega)
theorem regions_f {w h m : Nat} (g : Grid4 w h) (hm : m < 2 ^ 60) (k : Nat) (hk : 4000 ≤ k) : impl_grid_regions.f k (w : Int) (h : Int) (m : Int) true = some (labOut (labF (besN w h) m (edgN w h) (w * h + 1)) (w * h)) := by
 obtain ⟨hM, hn⟩ := edgN_le g
 have e0 : wrap64 ((w : Int) * (h : Int)) = ((w * h : Nat) : Int) := by
  rw [← Int.natCast_mul]
  unfold wrap64; omega
 have e1 : wrap64 (((w * h : Nat) : Int) + 1) = ((w * h + 1 : Nat) : Int) := by unfold wrap64; omega
 unfold impl_grid_regions.f
 rw [e0, e1]
 obtain ⟨k1, p1, p2⟩ := rg_l0 (m : Int) (w : Int) (h : Int) (w * h) hn (w * h + 1) k 0 (by omega) (by omega) (by omega)
 obtain ⟨k2, p3, p4⟩ := rg_l1 g hm (w * h + 1) k1 0 (by omega) (by omega) (by omega)
 have p5 := rg_l3 (labF (besN w h) m (edgN w h) (w * h + 1)) hn (w * h) k2 0 (by omega) (by omega) (by omega)
 refine (p2.trans (p4.trans p5)).trans ?_
 congr 1
 have L := lab_done (m := m) (besLe g)
 unfold outQ labOut
 congr 1
 apply List.filter_congr
 intro v hv
 have hv := List.mem_range.1 hv
 congr 1
 rw [Bool.eq_iff_iff, beq_iff_eq]
 constructor
 ·intro hne
  cases hE : setL (w * h) (fun u => labF (besN w h) m (edgN w h) (w * h + 1) u == v) with
  | nil => rw [hE] at hne; simp at hne
  | cons a r =>
   have ha : a ∈ setL (w * h) (fun u => labF (besN w h) m (edgN w h) (w * h + 1) u == v) := by rw [hE]; exact List.mem_cons_self
   rw [setL_mem] at ha
   obtain ⟨u, -, hu, huv⟩ := ha
   rw [beq_iff_eq] at huv
   have c := L.conn u (by omega)
   have s := L.same u _ (by omega) c
   rw [huv] at s
   exact s.symm
 ·intro hvv
  have : (v : Int) ∈ setL (w * h) (fun u => labF (besN w h) m (edgN w h) (w * h + 1) u == v) := (setL_in _ _ _).2 ⟨hv, by simpa using hvv⟩
  cases hE : setL (w * h) (fun u => labF (besN w h) m (edgN w h) (w * h + 1) u == v) with
  | nil => rw [hE] at this; cases this
  | cons a r => rfl
end

end Go.Proofs.Yteaglkpplgbpaaa.P
namespace Go.Proofs.Yteaglkpplgbpaaa.P
open Go.RowKit Go.Proofs.YteaglkpplgbpaaaW.PrintWords Go.Proofs.YteaglkpplgbpaaaW.PrintLast Go.Proofs.YteaglkpplgbpaaaW.PrintMore
attribute [local go_sem] max2_int min2_int max_two min_two max_three min_three max_four min_four   -- for this text's walks alone
set_option linter.unusedVariables false
set_option linter.unusedSimpArgs false



def spec_l1Own.f (l0 : List Int) : Option (List Int) := (some (([] : List Int) : List Int)).bind fun y673 => (if y673.length + l0.length < 17592186044416 then (some (y673 ++ l0)) else (none))

def spec_fiOwn.f (a0_0 : Int) (a0_1 : Int) (l0_2 : List Int) (l0_3 : List Int) : Option (Int × Int × List Int × List Int) := (spec_l1Own.f l0_2).bind fun t681 => ((spec_l1Own.f l0_3).bind fun t684 => (some (a0_0, a0_1, t681, t684)))

def spec_fiPut.f (k : Nat) (a0_0 : Int) (a0_1 : Int) (l0_2 : List Int) (l0_3 : List Int) (a1 : Bool) (a2 : Int) (a3 : Int) : Option (Int × Int × List Int × List Int) := (spec_fiOwn.f a0_0 a0_1 l0_2 l0_3).bind fun bt689 => ((spec_fiEdge.f a0_0 a0_1 l0_2 l0_3 a1 a2 a3).bind fun bt698 => ((spec_fiHas.f k a0_0 a0_1 l0_2 l0_3 a1 a2 a3).bind fun t700 => (if t700 = true then (some (bt689.1, bt689.2.1, bt689.2.2.1, bt689.2.2.2)) else (if a1 = true then ((spec_l1Put.f k bt689.2.2.2 bt698.1).bind fun t701 => (some (bt689.1, bt689.2.1, bt689.2.2.1, t701))) else ((spec_l1Put.f k bt689.2.2.1 bt698.1).bind fun t704 => (some (bt689.1, bt689.2.1, t704, bt689.2.2.2)))))))
theorem spec_fiPut.mono : ∀ a0 a1 a2 a3 a4 a5 a6 k, LeO (spec_fiPut.f k a0 a1 a2 a3 a4 a5 a6) (spec_fiPut.f (k + 1) a0 a1 a2 a3 a4 a5 a6) := by
  intro a0 a1 a2 a3 a4 a5 a6 k
  unfold spec_fiPut.f
  repeat' first
      | (with_reducible exact spec_fiHas.mono _ _ _ _ _ _ _ _)
      | (with_reducible exact spec_l1Put.mono _ _ _)
      | (with_reducible exact LeO.refl _)
      | (with_reducible exact LeO.none _)
      | (with_reducible refine LeO.ite ?_ ?_)
      | (with_reducible refine LeO.bind ?_ (fun _ => ?_))
      | exact spec_fiHas.mono _ _ _ _ _ _ _ _
      | exact spec_l1Put.mono _ _ _
      | exact LeO.none _
      | refine LeO.ite ?_ ?_
      | refine LeO.bind ?_ (fun _ => ?_)

def spec_fiThose.l0 : Nat → List Int → Bool → List Int → List Int → Int → Int → Option (List Int)
  | 0, _, _, _, _, _, _ => none
  | k + 1, x1, x2, x7, x10, x11, x12 => if x12 < x11 then (if 0 ≤ x12 then (if x12 < (x10.length : Int) then ((spec_l1Has.f k x1 (rd x10 x12)).bind fun t772 => (if (t772 == x2) = true then (if x7.length < 17592186044416 then (spec_fiThose.l0 k x1 x2 (x7 ++ [rd x10 x12]) x10 x11 (wrap64 (x12 + 1))) else (none)) else (spec_fiThose.l0 k x1 x2 x7 x10 x11 (wrap64 (x12 + 1))))) else (none)) else (none)) else (some x7)
def spec_fiThose.f (k : Nat) (l0 : List Int) (l1 : List Int) (a2 : Bool) : Option (List Int) := spec_fiThose.l0 k l1 a2 ([] : List Int) l0 (l0.length : Int) 0
theorem spec_fiThose.mono_l : ∀ k, (∀ y0 y1 y2 y3 y4 y5, LeO (spec_fiThose.l0 k y0 y1 y2 y3 y4 y5) (spec_fiThose.l0 (k + 1) y0 y1 y2 y3 y4 y5))
  | 0 => fun _ _ _ _ _ _ r h => by simp [spec_fiThose.l0] at h
  | k + 1 => by
    have ih0 := spec_fiThose.mono_l k
    · intro y0 y1 y2 y3 y4 y5
      unfold spec_fiThose.l0
      repeat' first
      | (with_reducible exact ih0 _ _ _ _ _ _)
      | (with_reducible exact spec_l1Has.mono _ _ _)
      | (with_reducible exact LeO.refl _)
      | (with_reducible exact LeO.none _)
      | (with_reducible refine LeO.ite ?_ ?_)
      | (with_reducible refine LeO.bind ?_ (fun _ => ?_))
      | exact ih0 _ _ _ _ _ _
      | exact spec_l1Has.mono _ _ _
      | exact LeO.none _
      | refine LeO.ite ?_ ?_
      | refine LeO.bind ?_ (fun _ => ?_)
theorem spec_fiThose.mono : ∀ a0 a1 a2 k, LeO (spec_fiThose.f k a0 a1 a2) (spec_fiThose.f (k + 1) a0 a1 a2) := by
  intro a0 a1 a2 k
  have ih0 := spec_fiThose.mono_l k
  unfold spec_fiThose.f
  repeat' first
      | (with_reducible exact ih0 _ _ _ _ _ _)
      | (with_reducible exact spec_l1Has.mono _ _ _)
      | (with_reducible exact LeO.refl _)
      | (with_reducible exact LeO.none _)
      | (with_reducible refine LeO.ite ?_ ?_)
      | (with_reducible refine LeO.bind ?_ (fun _ => ?_))
      | exact ih0 _ _ _ _ _ _
      | exact spec_l1Has.mono _ _ _
      | exact LeO.none _
      | refine LeO.ite ?_ ?_
      | refine LeO.bind ?_ (fun _ => ?_)

def spec_fiLess.f (k : Nat) (a0_0 : Int) (a0_1 : Int) (l0_2 : List Int) (l0_3 : List Int) (a1_0 : Int) (a1_1 : Int) (l1_2 : List Int) (l1_3 : List Int) : Option (Int × Int × List Int × List Int) := (spec_fiThose.f k l0_2 l1_2 false).bind fun t779 => ((spec_fiThose.f k l0_3 l1_3 false).bind fun t782 => (some (a0_0, a0_1, t779, t782)))
theorem spec_fiLess.mono : ∀ a0 a1 a2 a3 a4 a5 a6 a7 k, LeO (spec_fiLess.f k a0 a1 a2 a3 a4 a5 a6 a7) (spec_fiLess.f (k + 1) a0 a1 a2 a3 a4 a5 a6 a7) := by
  intro a0 a1 a2 a3 a4 a5 a6 a7 k
  unfold spec_fiLess.f
  repeat' first
      | (with_reducible exact spec_fiThose.mono _ _ _ _)
      | (with_reducible exact LeO.refl _)
      | (with_reducible exact LeO.none _)
      | (with_reducible refine LeO.ite ?_ ?_)
      | (with_reducible refine LeO.bind ?_ (fun _ => ?_))
      | exact spec_fiThose.mono _ _ _ _
      | exact LeO.none _
      | refine LeO.ite ?_ ?_
      | refine LeO.bind ?_ (fun _ => ?_)
def spec_fiLess.T1 : Bool × List (List Nat × List Nat) := (true, [([], []), ([0], [0]), ([], []), ([2], [2]), ([], []), ([4], [4]), ([], []), ([6], [6]), ([5, 7], [5, 7]), ([], []), ([9], [9]), ([], []), ([11], [11]), ([10, 12, 8], [10, 12]), ([1, 3, 8, 13], [1, 3, 8, 13]), ([14, 13, 0, 1, 2, 3, 4, 5, 6, 7, 8, 9, 10, 11, 12, 13, 14], [14])])
def spec_fiLess.B1 : List Nat := [0, 1, 0, 4, 0, 16, 0, 64, 240, 0, 512, 0, 2048, 8176, 16383, 32767]
theorem spec_fiLess.tab1 : rtab .any (opsOf Try.f63 1) = spec_fiLess.T1 := by kernel_rfl
theorem spec_fiLess.bits1 : waitsOk spec_fiLess.T1.2 spec_fiLess.B1 = true := by kernel_rfl

theorem ins_ok {l : List Int} {x : Int} {i : Nat} (hp : l.Pairwise (· < ·)) (h1 : ∀ y ∈ l.take i, y < x) (h2 : ∀ y ∈ l.drop i, x < y) : (l.take i ++ [x] ++ l.drop i).Pairwise (· < ·) ∧ (∀ y, y ∈ l.take i ++ [x] ++ l.drop i ↔ y ∈ l ∨ y = x) ∧ (l.take i ++ [x] ++ l.drop i).length ≤ l.length + 1 := by
  have hp2 := hp
  rw [← List.take_append_drop i l, List.pairwise_append] at hp2
  obtain ⟨p1, p2, p3⟩ := hp2
  refine ⟨?_, fun y => ?_, ?_⟩
  · rw [List.pairwise_append, List.pairwise_append]
    refine ⟨⟨p1, List.pairwise_singleton _ _, fun a ha b hb => ?_⟩, p2, fun a ha b hb => ?_⟩
    · rw [List.mem_singleton] at hb
      subst hb
      exact h1 a ha
    · rw [List.mem_append, List.mem_singleton] at ha
      rcases ha with ha | rfl
      · exact p3 a ha b hb
      · exact h2 b hb
  · rw [List.mem_append, List.mem_append, List.mem_singleton]
    have : y ∈ l ↔ y ∈ l.take i ∨ y ∈ l.drop i := by rw [← List.mem_append, List.take_append_drop]
    rw [this]
    constructor
    · rintro ((h | h) | h)
      · exact .inl (.inl h)
      · exact .inr h
      · exact .inl (.inr h)
    · rintro ((h | h) | h)
      · exact .inl (.inl h)
      · exact .inr h
      · exact .inl (.inr h)
  · rw [List.length_append, List.length_append, List.length_take, List.length_drop, List.length_singleton]
    omega
theorem l1Put_l0 (l : List Int) (x : Int) (hp : l.Pairwise (· < ·)) (hL : l.length ≤ 4000000) : ∀ (d k i : Nat), l.length - i = d → i ≤ l.length → d < k → (∀ y ∈ l.take i, y < x) → ∃ r, spec_l1Put.l0 k l x (i : Int) = some r ∧ r.Pairwise (· < ·) ∧ (∀ y, y ∈ r ↔ y ∈ l ∨ y = x) ∧ r.length ≤ l.length + 1 := by
  intro d
  induction d with
  | zero =>
    intro k i h1 h2 h3 h4
    obtain ⟨k, rfl⟩ : ∃ m, k = m + 1 := ⟨k - 1, by omega⟩
    obtain rfl : i = l.length := by omega
    refine ⟨_, ?_, ins_ok hp h4 (fun y hy => by rw [List.drop_length] at hy; cases hy)⟩
    simp only [spec_l1Put.l0, Option.bind_some, Int.toNat_natCast, List.nil_append, List.length_nil]
    rw [if_neg (by omega), if_pos (by omega), if_pos (by omega), if_pos (by rw [List.length_take]; omega), if_pos (by rw [List.length_take]; omega), if_pos (by rw [List.length_append, List.length_take, List.length_drop, List.length_singleton]; omega)]
  | succ d ih =>
    intro k i h1 h2 h3 h4
    obtain ⟨k, rfl⟩ : ∃ m, k = m + 1 := ⟨k - 1, by omega⟩
    have hi : i < l.length := by omega
    have e2 : wrap64 ((i : Int) + 1) = ((i + 1 : Nat) : Int) := by unfold wrap64; omega
    simp only [spec_l1Put.l0, Option.bind_some, Int.toNat_natCast, List.nil_append, List.length_nil]
    rw [if_pos (by omega), if_pos (by omega), rd_nat l i hi, e2]
    by_cases hlt : l[i] < x
    · rw [if_pos hlt]
      refine ih k (i + 1) (by omega) (by omega) (by omega) (fun y hy => ?_)
      rw [List.take_succ_eq_append_getElem hi, List.mem_append, List.mem_singleton] at hy
      rcases hy with hy | rfl
      · exact h4 y hy
      · exact hlt
    · rw [if_neg hlt]
      by_cases he : l[i] = x
      · rw [if_pos he]
        refine ⟨l, rfl, hp, fun y => ⟨fun h => .inl h, ?_⟩, by omega⟩
        rintro (h | rfl)
        · exact h
        · rw [← he]; exact List.getElem_mem hi
      · have hd : ∀ y ∈ l.drop i, x < y := fun y hy => by
          rw [List.drop_eq_getElem_cons hi] at hy
          have hp2 := hp
          rw [← List.take_append_drop i l, List.pairwise_append] at hp2
          have p2 := hp2.2.1
          rw [List.drop_eq_getElem_cons hi, List.pairwise_cons] at p2
          rcases List.mem_cons.1 hy with rfl | hy
          · omega
          · have := p2.1 y hy; omega
        refine ⟨_, ?_, ins_ok hp h4 hd⟩
        rw [if_neg he, if_pos (by omega), if_pos (by rw [List.length_take]; omega), if_pos (by rw [List.length_take]; omega), if_pos (by rw [List.length_append, List.length_take, List.length_drop, List.length_singleton]; omega)]
theorem l1Put_f (l : List Int) (x : Int) (hp : l.Pairwise (· < ·)) (hL : l.length ≤ 4000000) (k : Nat) (hk : l.length < k) : ∃ r, spec_l1Put.f k l x = some r ∧ r.Pairwise (· < ·) ∧ (∀ y, y ∈ r ↔ y ∈ l ∨ y = x) ∧ r.length ≤ l.length + 1 := by
  unfold spec_l1Put.f
  exact l1Put_l0 l x hp hL l.length k 0 (by omega) (by omega) hk (fun y hy => by rw [List.take_zero] at hy; cases hy)
end Go.Proofs.Yteaglkpplgbpaaa.P
