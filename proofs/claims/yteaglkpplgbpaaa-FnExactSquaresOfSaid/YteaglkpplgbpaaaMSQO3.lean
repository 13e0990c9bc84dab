/- For every input the law FnExactSquaresOf answers true: the program's SquaresOf tells what the reference's SquaresOf tells; no condition. (part 3 of the proof; the words of the kit's print tool and the texts of this seat, merged by a program) -/
import Derived.Below
import Derived.ChangeOld
import Derived.JoinedOf
import Derived.Lib.SmallJoins
import Derived.OpenShut
import Derived.ProofKit
import Derived.SizedLaws
import Derived.Test.YteaglkpplgbpaaaClosed
import Derived.Test.YteaglkpplgbpaaaRows
import Derived.WalkKit
import Derived.Test.YteaglkpplgbpaaaMSQO2
namespace Go.Proofs.Yteaglkpplgbpaaa.P
open Go.RowKit Go.Proofs.YteaglkpplgbpaaaW.PrintWords Go.Proofs.YteaglkpplgbpaaaW.PrintLast Go.Proofs.YteaglkpplgbpaaaW.PrintMore
attribute [local go_sem] max2_int min2_int max_two min_two max_three min_three max_four min_four   -- for this text's walks alone
set_option linter.unusedVariables false
set_option linter.unusedSimpArgs false

mutual
def spec_sqAround.l0 : Nat → Int → Int → Int → Int → Int → Int → Int → Int → Option (Int)
 | 0, _, _, _, _, _, _, _, _ => none
 | k + 1, x0, x1, x2, x3, x4, x5, x13, x14 => if x14 < x4 then ((spec_sqBit.f x0 x1 false (wrap64 ((wrap64 ((wrap64 (x3 * x0)) + x2)) + x14))).bind fun t227 => ((spec_sqBit.f x0 x1 false (wrap64 ((wrap64 ((wrap64 ((wrap64 (x3 + x5)) * x0)) + x2)) + x14))).bind fun t228 => (spec_sqAround.l0 k x0 x1 x2 x3 x4 x5 (Go.bits .or .i64 x13 (Go.bits .or .i64 t227 t228)) (wrap64 (x14 + 1))))) else (spec_sqAround.l1 k x0 x1 x2 x3 x4 x5 x13 0)
def spec_sqAround.l1 : Nat → Int → Int → Int → Int → Int → Int → Int → Int → Option (Int)
 | 0, _, _, _, _, _, _, _, _ => none
 | k + 1, x0, x1, x2, x3, x4, x5, x13, x15 => if x15 < x5 then ((spec_sqBit.f x0 x1 true (wrap64 ((wrap64 ((wrap64 (x3 + x15)) * (wrap64 (x0 + 1)))) + x2))).bind fun t229 => ((spec_sqBit.f x0 x1 true (wrap64 ((wrap64 ((wrap64 ((wrap64 (x3 + x15)) * (wrap64 (x0 + 1)))) + x2)) + x4))).bind fun t230 => (spec_sqAround.l1 k x0 x1 x2 x3 x4 x5 (Go.bits .or .i64 x13 (Go.bits .or .i64 t229 t230)) (wrap64 (x15 + 1))))) else (some x13)
end
def spec_sqAround.f (k : Nat) (a0 : Int) (a1 : Int) (a2 : Int) (a3 : Int) (a4 : Int) (a5 : Int) : Option (Int) := spec_sqAround.l0 k a0 a1 a2 a3 a4 a5 0 0
theorem spec_sqAround.mono_l : ∀ k, (∀ y0 y1 y2 y3 y4 y5 y6 y7, LeO (spec_sqAround.l0 k y0 y1 y2 y3 y4 y5 y6 y7) (spec_sqAround.l0 (k + 1) y0 y1 y2 y3 y4 y5 y6 y7)) ∧ (∀ y0 y1 y2 y3 y4 y5 y6 y7, LeO (spec_sqAround.l1 k y0 y1 y2 y3 y4 y5 y6 y7) (spec_sqAround.l1 (k + 1) y0 y1 y2 y3 y4 y5 y6 y7))
 | 0 => ⟨fun _ _ _ _ _ _ _ _ r h => by simp [spec_sqAround.l0] at h, fun _ _ _ _ _ _ _ _ r h => by simp [spec_sqAround.l1] at h⟩
 | k + 1 => by
  obtain ⟨ih0, ih1⟩ := spec_sqAround.mono_l k
  refine ⟨?_, ?_⟩
  ·intro y0 y1 y2 y3 y4 y5 y6 y7
   unfold spec_sqAround.l0
   repeat' first
   | (with_reducible exact ih0 _ _ _ _ _ _ _ _)
   | (with_reducible exact ih1 _ _ _ _ _ _ _ _)
   | (with_reducible exact LeO.refl _)
   | (with_reducible exact LeO.none _)
   | (with_reducible refine LeO.ite ?_ ?_)
   | (with_reducible refine LeO.bind ?_ (fun _ => ?_))
   | exact ih0 _ _ _ _ _ _ _ _
   | exact ih1 _ _ _ _ _ _ _ _
   | exact LeO.none _
   | refine LeO.ite ?_ ?_
   | refine LeO.bind ?_ (fun _ => ?_)
  ·intro y0 y1 y2 y3 y4 y5 y6 y7
   unfold spec_sqAround.l1
   repeat' first
   | (with_reducible exact ih0 _ _ _ _ _ _ _ _)
   | (with_reducible exact ih1 _ _ _ _ _ _ _ _)
   | (with_reducible exact LeO.refl _)
   | (with_reducible exact LeO.none _)
   | (with_reducible refine LeO.ite ?_ ?_)
   | (with_reducible refine LeO.bind ?_ (fun _ => ?_))
   | exact ih0 _ _ _ _ _ _ _ _
   | exact ih1 _ _ _ _ _ _ _ _
   | exact LeO.none _
   | refine LeO.ite ?_ ?_
   | refine LeO.bind ?_ (fun _ => ?_)
theorem spec_sqAround.mono : ∀ a0 a1 a2 a3 a4 a5 k, LeO (spec_sqAround.f k a0 a1 a2 a3 a4 a5) (spec_sqAround.f (k + 1) a0 a1 a2 a3 a4 a5) := by
 intro a0 a1 a2 a3 a4 a5 k
 obtain ⟨ih0, ih1⟩ := spec_sqAround.mono_l k
 unfold spec_sqAround.f
 repeat' first
   | (with_reducible exact ih0 _ _ _ _ _ _ _ _)
   | (with_reducible exact ih1 _ _ _ _ _ _ _ _)
   | (with_reducible exact LeO.refl _)
   | (with_reducible exact LeO.none _)
   | (with_reducible refine LeO.ite ?_ ?_)
   | (with_reducible refine LeO.bind ?_ (fun _ => ?_))
   | exact ih0 _ _ _ _ _ _ _ _
   | exact ih1 _ _ _ _ _ _ _ _
   | exact LeO.none _
   | refine LeO.ite ?_ ?_
   | refine LeO.bind ?_ (fun _ => ?_)
set_option maxHeartbeats 8000000 in
set_option maxRecDepth 100000 in
theorem spec_sqAround.calls (k : Nat) (a0 : Int) (a1 : Int) (a2 : Int) (a3 : Int) (a4 : Int) (a5 : Int) (r : Int) (w : World) (h : spec_sqAround.f k a0 a1 a2 a3 a4 a5 = some r) :
  Calls Try.prog 92 #[.int .i64 a0, .int .i64 a1, .int .i64 a2, .int .i64 a3, .int .i64 a4, .int .i64 a5] w fun e w' => e = .returned (.int .i64 r) ∧ Drawn0 w w' := by
 have H : (spec_sqAround.l0 k a0 a1 a2 a3 a4 a5 0 0) = some r := h
 clear h
 have H' := Aside0.mk H
 clear H
 go_enter Try.func92, Try.ntmps92
 go_wp2
 go_loopg [13, 14] k (fun kq v13 v14 w' => ∃ (x13_1 : Int) (x14_1 : Int), v13 = .int .i64 x13_1 ∧ v14 = .int .i64 x14_1 ∧ Aside0 (spec_sqAround.l0 kq a0 a1 a2 a3 a4 a5 x13_1 x14_1 = some r) ∧ Aside0 (kq ≤ k) ∧ Drawn0 w w')
 case atStart => exact ⟨(0), (0), rs_, rs_, H', ⟨Nat.le_refl _⟩, by repeat (first | exact Drawn0.refl _ | apply Drawn0.step)⟩
 case round =>
  clear H'
  try clear p2
  obtain ⟨x13_1, x14_1, rfl, rfl, HA, HK1, ⟨m1, rfl⟩⟩ := hrel
  cases gk with
  | zero => exact absurd HA.out (by simp [spec_sqAround.l0])
  | succ k1 =>
   have H := HA.out
   clear HA
   simp only [spec_sqAround.l0] at H
   by_cases c7 : x14_1 < a4
   ·rw [if_pos c7] at H
    have c7b0 : decide (x14_1 < a4) = true := decide_eq_true c7
    clear c7
    replace H := Option.bind_eq_some_iff.mp H
    obtain ⟨t227, A80, H⟩ := H
    replace H : ((spec_sqBit.f a0 a1 false (wrap64 ((wrap64 ((wrap64 ((wrap64 (a3 + a5)) * a0)) + a2)) + x14_1))).bind fun t228 => (spec_sqAround.l0 k1 a0 a1 a2 a3 a4 a5 (Go.bits .or .i64 x13_1 (Go.bits .or .i64 t227 t228)) (wrap64 (x14_1 + 1)))) = some r := H
    have A8 := Aside0.mk A80
    clear A80
    replace H := Option.bind_eq_some_iff.mp H
    obtain ⟨t228, A90, H⟩ := H
    replace H : (spec_sqAround.l0 k1 a0 a1 a2 a3 a4 a5 (Go.bits .or .i64 x13_1 (Go.bits .or .i64 t227 t228)) (wrap64 (x14_1 + 1))) = some r := H
    have A9 := Aside0.mk A90
    clear A90
    have H' := Aside0.mk H
    clear H
    go_wp2_with (first | ((with_reducible refine gate_callee (f := 91) rfl ?_); refine goesL_ (some 31) rfl rfl Try.func91 (by kernel_rfl) rfl #[.int .i64 a0, .int .i64 a1, .bool false, .int .i64 (wrap64 ((wrap64 ((wrap64 (a3 * a0)) + a2)) + x14_1))] rfl ob_ ?_; (with_reducible refine (spec_sqBit.calls a0 a1 false (wrap64 ((wrap64 ((wrap64 (a3 * a0)) + a2)) + x14_1)) t227 _ A8.out).mono ?_); rintro e w' ⟨rfl, ⟨nd, rfl⟩⟩; refine ⟨_, rfl, ?_⟩) | ((with_reducible refine gate_callee (f := 91) rfl ?_); refine goesL_ (some 43) rfl rfl Try.func91 (by kernel_rfl) rfl #[.int .i64 a0, .int .i64 a1, .bool false, .int .i64 (wrap64 ((wrap64 ((wrap64 ((wrap64 (a3 + a5)) * a0)) + a2)) + x14_1))] rfl ob_ ?_; (with_reducible refine (spec_sqBit.calls a0 a1 false (wrap64 ((wrap64 ((wrap64 ((wrap64 (a3 + a5)) * a0)) + a2)) + x14_1)) t228 _ A9.out).mono ?_); rintro e w' ⟨rfl, ⟨nd, rfl⟩⟩; refine ⟨_, rfl, ?_⟩))
    go_roundg k1
    case measure => have := HK1.out; omega
    case rel => exact ⟨(Go.bits .or .i64 x13_1 (Go.bits .or .i64 t227 t228)), (wrap64 (x14_1 + 1)), rs_, rs_, H', ⟨by have := HK1.out; omega⟩, by repeat (first | exact Drawn0.refl _ | apply Drawn0.step)⟩
   ·rw [if_neg c7] at H
    have c7b0 : decide (x14_1 < a4) = false := decide_eq_false c7
    clear c7
    have H' := Aside0.mk H
    clear H
    go_wp2
    go_loopg [13, 15] k1 (fun kq v13 v15 w' => ∃ (x13_2 : Int) (x15_2 : Int), v13 = .int .i64 x13_2 ∧ v15 = .int .i64 x15_2 ∧ Aside0 (spec_sqAround.l1 kq a0 a1 a2 a3 a4 a5 x13_2 x15_2 = some r) ∧ Aside0 (kq ≤ k1) ∧ Drawn0 w w')
    case atStart => exact ⟨(x13_1), (0), rs_, rs_, H', ⟨Nat.le_refl _⟩, by repeat (first | exact Drawn0.refl _ | apply Drawn0.step)⟩
    case round =>
     clear H'
     try clear p2
     try clear p6
     try clear c7
     try clear c7b0
     try clear c9
     try clear p2
     obtain ⟨x13_2, x15_2, rfl, rfl, HA, HK2, ⟨m2, rfl⟩⟩ := hrel
     cases gk with
     | zero => exact absurd HA.out (by simp [spec_sqAround.l1])
     | succ k2 =>
      have H := HA.out
      clear HA
      simp only [spec_sqAround.l1] at H
      by_cases c10 : x15_2 < a5
      ·rw [if_pos c10] at H
       have c10b0 : decide (x15_2 < a5) = true := decide_eq_true c10
       clear c10
       replace H := Option.bind_eq_some_iff.mp H
       obtain ⟨t229, A110, H⟩ := H
       replace H : ((spec_sqBit.f a0 a1 true (wrap64 ((wrap64 ((wrap64 ((wrap64 (a3 + x15_2)) * (wrap64 (a0 + 1)))) + a2)) + a4))).bind fun t230 => (spec_sqAround.l1 k2 a0 a1 a2 a3 a4 a5 (Go.bits .or .i64 x13_2 (Go.bits .or .i64 t229 t230)) (wrap64 (x15_2 + 1)))) = some r := H
       have A11 := Aside0.mk A110
       clear A110
       replace H := Option.bind_eq_some_iff.mp H
       obtain ⟨t230, A120, H⟩ := H
       replace H : (spec_sqAround.l1 k2 a0 a1 a2 a3 a4 a5 (Go.bits .or .i64 x13_2 (Go.bits .or .i64 t229 t230)) (wrap64 (x15_2 + 1))) = some r := H
       have A12 := Aside0.mk A120
       clear A120
       have H' := Aside0.mk H
       clear H
       go_wp2_with (first | ((with_reducible refine gate_callee (f := 91) rfl ?_); refine goesL_ (some 62) rfl rfl Try.func91 (by kernel_rfl) rfl #[.int .i64 a0, .int .i64 a1, .bool true, .int .i64 (wrap64 ((wrap64 ((wrap64 (a3 + x15_2)) * (wrap64 (a0 + 1)))) + a2))] rfl ob_ ?_; (with_reducible refine (spec_sqBit.calls a0 a1 true (wrap64 ((wrap64 ((wrap64 (a3 + x15_2)) * (wrap64 (a0 + 1)))) + a2)) t229 _ A11.out).mono ?_); rintro e w' ⟨rfl, ⟨nd, rfl⟩⟩; refine ⟨_, rfl, ?_⟩) | ((with_reducible refine gate_callee (f := 91) rfl ?_); refine goesL_ (some 75) rfl rfl Try.func91 (by kernel_rfl) rfl #[.int .i64 a0, .int .i64 a1, .bool true, .int .i64 (wrap64 ((wrap64 ((wrap64 ((wrap64 (a3 + x15_2)) * (wrap64 (a0 + 1)))) + a2)) + a4))] rfl ob_ ?_; (with_reducible refine (spec_sqBit.calls a0 a1 true (wrap64 ((wrap64 ((wrap64 ((wrap64 (a3 + x15_2)) * (wrap64 (a0 + 1)))) + a2)) + a4)) t230 _ A12.out).mono ?_); rintro e w' ⟨rfl, ⟨nd, rfl⟩⟩; refine ⟨_, rfl, ?_⟩))
       go_roundg k2
       case measure => have := HK1.out; have := HK2.out; omega
       case rel => exact ⟨(Go.bits .or .i64 x13_2 (Go.bits .or .i64 t229 t230)), (wrap64 (x15_2 + 1)), rs_, rs_, H', ⟨by have := HK1.out; have := HK2.out; omega⟩, by repeat (first | exact Drawn0.refl _ | apply Drawn0.step)⟩
      ·rw [if_neg c10] at H
       have c10b0 : decide (x15_2 < a5) = false := decide_eq_false c10
       clear c10
       obtain rfl := Option.some.inj H
       go_wp2
       go_ret
       exact ⟨by first | rfl | (simp; done) | (simp [*]; done), by repeat (first | exact Drawn0.refl _ | apply Drawn0.step)⟩


mutual
def spec_sqAll.l0 : Nat → Int → Int → List (S58) → Int → Option ((List (S58)))
 | 0, _, _, _, _ => none
 | k + 1, x0, x1, x5, x6 => if x6 ≤ x0 then (spec_sqAll.j1 k x0 x1 x5 x6 (decide (x6 ≤ x1))) else (spec_sqAll.j1 k x0 x1 x5 x6 false)
def spec_sqAll.j1 : Nat → Int → Int → List (S58) → Int → Bool → Option ((List (S58)))
 | 0, _, _, _, _, _ => none
 | k + 1, x0, x1, x5, x6, x16 => if x16 = true then (spec_sqAll.l1 k x0 x1 x5 x6 0) else (some x5)
def spec_sqAll.l1 : Nat → Int → Int → List (S58) → Int → Int → Option ((List (S58)))
 | 0, _, _, _, _, _ => none
 | k + 1, x0, x1, x5, x6, x7 => if (wrap64 (x7 + x6)) ≤ x1 then (spec_sqAll.l2 k x0 x1 x5 x6 x7 0) else (spec_sqAll.l0 k x0 x1 x5 (wrap64 (x6 + 1)))
def spec_sqAll.l2 : Nat → Int → Int → List (S58) → Int → Int → Int → Option ((List (S58)))
 | 0, _, _, _, _, _, _ => none
 | k + 1, x0, x1, x5, x6, x7, x8 => if (wrap64 (x8 + x6)) ≤ x0 then ((spec_sqAround.f k x0 x1 x8 x7 x6 x6).bind fun t231 => (if x5.length < 4398046511104 then (spec_sqAll.l2 k x0 x1 (x5 ++ [(⟨x8, x7, x6, t231⟩ : S58)]) x6 x7 (wrap64 (x8 + 1))) else (none))) else (spec_sqAll.l1 k x0 x1 x5 x6 (wrap64 (x7 + 1)))
end
def spec_sqAll.f (k : Nat) (a0 : Int) (a1 : Int) : Option ((List (S58))) := spec_sqAll.l0 k a0 a1 ([] : List (S58)) 1
theorem spec_sqAll.mono_l : ∀ k, (∀ y0 y1 y2 y3, LeO (spec_sqAll.l0 k y0 y1 y2 y3) (spec_sqAll.l0 (k + 1) y0 y1 y2 y3)) ∧ (∀ y0 y1 y2 y3 y4, LeO (spec_sqAll.j1 k y0 y1 y2 y3 y4) (spec_sqAll.j1 (k + 1) y0 y1 y2 y3 y4)) ∧ (∀ y0 y1 y2 y3 y4, LeO (spec_sqAll.l1 k y0 y1 y2 y3 y4) (spec_sqAll.l1 (k + 1) y0 y1 y2 y3 y4)) ∧ (∀ y0 y1 y2 y3 y4 y5, LeO (spec_sqAll.l2 k y0 y1 y2 y3 y4 y5) (spec_sqAll.l2 (k + 1) y0 y1 y2 y3 y4 y5))
 | 0 => ⟨fun _ _ _ _ r h => by simp [spec_sqAll.l0] at h, fun _ _ _ _ _ r h => by simp [spec_sqAll.j1] at h, fun _ _ _ _ _ r h => by simp [spec_sqAll.l1] at h, fun _ _ _ _ _ _ r h => by simp [spec_sqAll.l2] at h⟩
 | k + 1 => by
  obtain ⟨ih0, ih1, ih2, ih3⟩ := spec_sqAll.mono_l k
  refine ⟨?_, ?_, ?_, ?_⟩
  ·intro y0 y1 y2 y3
   unfold spec_sqAll.l0
   repeat' first
   | (with_reducible exact ih0 _ _ _ _)
   | (with_reducible exact ih1 _ _ _ _ _)
   | (with_reducible exact ih2 _ _ _ _ _)
   | (with_reducible exact ih3 _ _ _ _ _ _)
   | (with_reducible exact spec_sqAround.mono _ _ _ _ _ _ _)
   | (with_reducible exact LeO.refl _)
   | (with_reducible exact LeO.none _)
   | (with_reducible refine LeO.ite ?_ ?_)
   | (with_reducible refine LeO.bind ?_ (fun _ => ?_))
   | exact ih0 _ _ _ _
   | exact ih1 _ _ _ _ _
   | exact ih2 _ _ _ _ _
   | exact ih3 _ _ _ _ _ _
   | exact spec_sqAround.mono _ _ _ _ _ _ _
   | exact LeO.none _
   | refine LeO.ite ?_ ?_
   | refine LeO.bind ?_ (fun _ => ?_)
  ·intro y0 y1 y2 y3 y4
   unfold spec_sqAll.j1
   repeat' first
   | (with_reducible exact ih0 _ _ _ _)
   | (with_reducible exact ih1 _ _ _ _ _)
   | (with_reducible exact ih2 _ _ _ _ _)
   | (with_reducible exact ih3 _ _ _ _ _ _)
   | (with_reducible exact spec_sqAround.mono _ _ _ _ _ _ _)
   | (with_reducible exact LeO.refl _)
   | (with_reducible exact LeO.none _)
   | (with_reducible refine LeO.ite ?_ ?_)
   | (with_reducible refine LeO.bind ?_ (fun _ => ?_))
   | exact ih0 _ _ _ _
   | exact ih1 _ _ _ _ _
   | exact ih2 _ _ _ _ _
   | exact ih3 _ _ _ _ _ _
   | exact spec_sqAround.mono _ _ _ _ _ _ _
   | exact LeO.none _
   | refine LeO.ite ?_ ?_
   | refine LeO.bind ?_ (fun _ => ?_)
  ·intro y0 y1 y2 y3 y4
   unfold spec_sqAll.l1
   repeat' first
   | (with_reducible exact ih0 _ _ _ _)
   | (with_reducible exact ih1 _ _ _ _ _)
   | (with_reducible exact ih2 _ _ _ _ _)
   | (with_reducible exact ih3 _ _ _ _ _ _)
   | (with_reducible exact spec_sqAround.mono _ _ _ _ _ _ _)
   | (with_reducible exact LeO.refl _)
   | (with_reducible exact LeO.none _)
   | (with_reducible refine LeO.ite ?_ ?_)
   | (with_reducible refine LeO.bind ?_ (fun _ => ?_))
   | exact ih0 _ _ _ _
   | exact ih1 _ _ _ _ _
   | exact ih2 _ _ _ _ _
   | exact ih3 _ _ _ _ _ _
   | exact spec_sqAround.mono _ _ _ _ _ _ _
   | exact LeO.none _
   | refine LeO.ite ?_ ?_
   | refine LeO.bind ?_ (fun _ => ?_)
  ·intro y0 y1 y2 y3 y4 y5
   unfold spec_sqAll.l2
   repeat' first
   | (with_reducible exact ih0 _ _ _ _)
   | (with_reducible exact ih1 _ _ _ _ _)
   | (with_reducible exact ih2 _ _ _ _ _)
   | (with_reducible exact ih3 _ _ _ _ _ _)
   | (with_reducible exact spec_sqAround.mono _ _ _ _ _ _ _)
   | (with_reducible exact LeO.refl _)
   | (with_reducible exact LeO.none _)
   | (with_reducible refine LeO.ite ?_ ?_)
   | (with_reducible refine LeO.bind ?_ (fun _ => ?_))
   | exact ih0 _ _ _ _
   | exact ih1 _ _ _ _ _
   | exact ih2 _ _ _ _ _
   | exact ih3 _ _ _ _ _ _
   | exact spec_sqAround.mono _ _ _ _ _ _ _
   | exact LeO.none _
   | refine LeO.ite ?_ ?_
   | refine LeO.bind ?_ (fun _ => ?_)
theorem spec_sqAll.mono : ∀ a0 a1 k, LeO (spec_sqAll.f k a0 a1) (spec_sqAll.f (k + 1) a0 a1) := by
 intro a0 a1 k
 obtain ⟨ih0, ih1, ih2, ih3⟩ := spec_sqAll.mono_l k
 unfold spec_sqAll.f
 repeat' first
   | (with_reducible exact ih0 _ _ _ _)
   | (with_reducible exact ih1 _ _ _ _ _)
   | (with_reducible exact ih2 _ _ _ _ _)
   | (with_reducible exact ih3 _ _ _ _ _ _)
   | (with_reducible exact spec_sqAround.mono _ _ _ _ _ _ _)
   | (with_reducible exact LeO.refl _)
   | (with_reducible exact LeO.none _)
   | (with_reducible refine LeO.ite ?_ ?_)
   | (with_reducible refine LeO.bind ?_ (fun _ => ?_))
   | exact ih0 _ _ _ _
   | exact ih1 _ _ _ _ _
   | exact ih2 _ _ _ _ _
   | exact ih3 _ _ _ _ _ _
   | exact spec_sqAround.mono _ _ _ _ _ _ _
   | exact LeO.none _
   | refine LeO.ite ?_ ?_
   | refine LeO.bind ?_ (fun _ => ?_)
set_option maxHeartbeats 8000000 in
set_option maxRecDepth 100000 in
theorem spec_sqAll.calls (k : Nat) (a0 : Int) (a1 : Int) (r : List (S58)) (w : World) (h : spec_sqAll.f k a0 a1 = some r) :
  Calls Try.prog 41 #[.int .i64 a0, .int .i64 a1] w fun e w' => ∃ v0_ : Value, e = .returned (v0_) ∧ Kd.R k58 58 w' w.heap.size (fun _ => True) v0_ r ∧ Below w.heap.size w w' := by
 have hu58 := Try.underlying58
 have HB := Aside0.mk (Below.refl w.heap.size w)
 have H : (spec_sqAll.l0 k a0 a1 ([] : List (S58)) 1) = some r := h
 clear h
 have H' := Aside0.mk H
 clear H
 go_enter Try.func41, Try.ntmps41
 go_wp2
 go_loopg [5, 6] k (fun kq v5 v6 w' => ∃ (x5_1 : List (S58)) (x6_1 : Int), v6 = .int .i64 x6_1 ∧ Aside0 (spec_sqAll.l0 kq a0 a1 x5_1 x6_1 = some r) ∧ Aside0 (kq ≤ k) ∧ Aside0 (Kd.R k58 58 w' w.heap.size (fun _ => True) v5 x5_1) ∧ Aside0 (Below w.heap.size w w'))
 case atStart => exact ⟨(([] : List (S58))), (1), rs_, H', ⟨Nat.le_refl _⟩, ⟨by first | exact Kd.R_nil _ _ _ _ _ | exact Kd.N_nil _ _ _ _ _ | exact Kd.V_nil _ _ _ _ _ | exact Kd.Q_nil _ _ _ _ _ | exact Kd.S_nil _ _ _ _ _⟩, ⟨bl0_ HB.out⟩⟩
 case round =>
  clear H'
  try clear p2
  obtain ⟨x5_1, x6_1, rfl, HA, HK1, HO_5, HB⟩ := hrel
  cases gk with
  | zero => exact absurd HA.out (by simp [spec_sqAll.l0])
  | succ k1 =>
   have H := HA.out
   clear HA
   simp only [spec_sqAll.l0] at H
   have HC3 := Aside0.mk H
   clear H
   go_upto_region 3 with (fail)
   go_cut [16] (fun v16 wc => ∃ (kq : Nat) (x16_2 : Bool), v16 = .bool x16_2 ∧ Aside0 (spec_sqAll.j1 kq a0 a1 x5_1 x6_1 x16_2 = some r) ∧ Aside0 (kq ≤ k1) ∧ Aside0 (Kd.R k58 58 wc w.heap.size (fun _ => True) u5 x5_1) ∧ Aside0 (Below w.heap.size w wc))
   case first =>
    have H := HC3.out
    clear HC3
    by_cases c4 : x6_1 ≤ a0
    ·rw [if_pos c4] at H
     have c4b0 : decide (x6_1 ≤ a0) = true := decide_eq_true c4
     clear c4
     (first | rw [c4b0] | (simp only [i64_w, i32_w]; rw [c4b0]) | skip)
     have H' := Aside0.mk H
     clear H
     go_wp2
     go_meet
     case rel => exact ⟨_, (decide (x6_1 ≤ a1)), rs_, H', ⟨by have := HK1.out; first | omega | exact Nat.le_refl _⟩, ⟨kr_ HO_5.out⟩, ⟨bl0_ HB.out⟩⟩
    ·rw [if_neg c4] at H
     have c4b0 : decide (x6_1 ≤ a0) = false := decide_eq_false c4
     clear c4
     (first | rw [c4b0] | (simp only [i64_w, i32_w]; rw [c4b0]) | skip)
     have H' := Aside0.mk H
     clear H
     go_wp2
     go_meet
     case rel => exact ⟨_, (false), rs_, H', ⟨by have := HK1.out; first | omega | exact Nat.le_refl _⟩, ⟨kr_ HO_5.out⟩, ⟨bl0_ HB.out⟩⟩
   case rest =>
    clear HC3
    try clear p2
    try clear c4
    try clear c4b0
    try clear p2
    obtain ⟨kq, x16_2, rfl, HA, HJ2, HO_5, HB⟩ := hcut
    cases kq with
    | zero => exact absurd HA.out (by simp [spec_sqAll.j1])
    | succ kj2 =>
     have H := HA.out
     clear HA
     simp only [spec_sqAll.j1] at H
     by_cases c5 : x16_2 = true
     ·subst c5
      have H1 : (spec_sqAll.l1 kj2 a0 a1 x5_1 x6_1 0) = some r := by rw [if_pos rfl] at H; exact H
      clear H
      have H := H1
      clear H1
      have H' := Aside0.mk H
      clear H
      go_wp2
      go_loopg [5, 7] kj2 (fun kq v5 v7 w' => ∃ (x5_3 : List (S58)) (x7_3 : Int), v7 = .int .i64 x7_3 ∧ Aside0 (spec_sqAll.l1 kq a0 a1 x5_3 x6_1 x7_3 = some r) ∧ Aside0 (kq ≤ kj2) ∧ Aside0 (Kd.R k58 58 w' w.heap.size (fun _ => True) v5 x5_3) ∧ Aside0 (Below w.heap.size w w'))
      case atStart => exact ⟨(x5_1), (0), rs_, H', ⟨Nat.le_refl _⟩, ⟨kr_ HO_5.out⟩, ⟨bl0_ HB.out⟩⟩
      case round =>
       clear H'
       try clear p2
       try clear c4
       try clear c4b0
       try clear c5
       try clear p2
       obtain ⟨x5_3, x7_3, rfl, HA, HK3, HO_5, HB⟩ := hrel
       cases gk with
       | zero => exact absurd HA.out (by simp [spec_sqAll.l1])
       | succ k3 =>
        have H := HA.out
        clear HA
        simp only [spec_sqAll.l1] at H
        by_cases c6 : (wrap64 (x7_3 + x6_1)) ≤ a1
        ·rw [if_pos c6] at H
         have c6b0 : decide ((wrap64 (x7_3 + x6_1)) ≤ a1) = true := decide_eq_true c6
         clear c6
         have H' := Aside0.mk H
         clear H
         go_wp2
         go_loopg [5, 8] k3 (fun kq v5 v8 w' => ∃ (x5_4 : List (S58)) (x8_4 : Int), v8 = .int .i64 x8_4 ∧ Aside0 (spec_sqAll.l2 kq a0 a1 x5_4 x6_1 x7_3 x8_4 = some r) ∧ Aside0 (kq ≤ k3) ∧ Aside0 (Kd.R k58 58 w' w.heap.size (fun _ => True) v5 x5_4) ∧ Aside0 (Below w.heap.size w w'))
         case atStart => exact ⟨(x5_3), (0), rs_, H', ⟨Nat.le_refl _⟩, ⟨kr_ HO_5.out⟩, ⟨bl0_ HB.out⟩⟩
         case round =>
          clear H'
          try clear p2
          try clear c4
          try clear c4b0
          try clear c5
          try clear c6
          try clear c6b0
          try clear p6
          try clear p2
          obtain ⟨x5_4, x8_4, rfl, HA, HK4, HO_5, HB⟩ := hrel
          cases gk with
          | zero => exact absurd HA.out (by simp [spec_sqAll.l2])
          | succ k4 =>
           have H := HA.out
           clear HA
           simp only [spec_sqAll.l2] at H
           by_cases c7 : (wrap64 (x8_4 + x6_1)) ≤ a0
           ·rw [if_pos c7] at H
            have c7b0 : decide ((wrap64 (x8_4 + x6_1)) ≤ a0) = true := decide_eq_true c7
            clear c7
            replace H := Option.bind_eq_some_iff.mp H
            obtain ⟨t231, A80, H⟩ := H
            replace H : (if x5_4.length < 4398046511104 then (spec_sqAll.l2 k4 a0 a1 (x5_4 ++ [(⟨x8_4, x7_3, x6_1, t231⟩ : S58)]) x6_1 x7_3 (wrap64 (x8_4 + 1))) else (none)) = some r := H
            have A8 := Aside0.mk A80
            clear A80
            by_cases c9 : x5_4.length < 4398046511104
            ·rw [if_pos c9] at H
             have LMc9 := Aside0.mk c9
             clear c9
             obtain ⟨y232, hy232⟩ : ∃ y_ : List (S58), y_ = (x5_4 ++ [(⟨x8_4, x7_3, x6_1, t231⟩ : S58)]) := ⟨_, rfl⟩
             replace H : (spec_sqAll.l2 k4 a0 a1 y232 x6_1 x7_3 (wrap64 (x8_4 + 1))) = some r := by first | (rw [hy232]; with_reducible exact H) | (have H2_ := (Option.bind_some _ _).symm.trans H; rw [hy232]; with_reducible exact H2_) | (have H2_ := (Option.bind_some _ _).symm.trans H; with_reducible exact H2_) | with_reducible exact H | (rw [hy232]; exact H) | exact H
             have Ny232 := Aside0.mk hy232
             clear hy232
             have H' := Aside0.mk H
             clear H
             go_wp2_with (first | ((with_reducible refine gate_callee (f := 92) rfl ?_); refine goesL_ (some 43) rfl rfl Try.func92 (by kernel_rfl) rfl #[.int .i64 a0, .int .i64 a1, .int .i64 x8_4, .int .i64 x7_3, .int .i64 x6_1, .int .i64 x6_1] rfl ob_ ?_; (with_reducible refine (spec_sqAround.calls k4 a0 a1 x8_4 x7_3 x6_1 x6_1 t231 _ A8.out).mono ?_); rintro e w' ⟨rfl, ⟨nd, rfl⟩⟩; refine ⟨_, rfl, ?_⟩) | ((with_reducible refine gate_builtin (b := .append) (xs := #[.tmp 33, .tmp 45]) rfl ?_); at_builtin; refine Kd.R_append k58 (w0 := w) w.heap.size rfl (.tmp 33) (.tmp 45) 55 58 (.agg #[(.int .i64 0), (.int .i64 0), (.int .i64 0), (.int .i64 0)]) 32 rfl Try.underlying55 info58 rfl (by decide) (by omega) u5 x5_4 (⟨x8_4, x7_3, x6_1, t231⟩ : S58) [.int .i64 x8_4, .int .i64 x7_3, .int .i64 x6_1, .int .i64 t231] (fun _ => True) (fun _ => False) rfl rfl ?aP (fun _ hk => hk.elim) ?aF ?aO ?aB ?aS ?aL ?_; (case aP => exact k58_mkM _ _ _ (⟨x8_4, x7_3, x6_1, t231⟩ : S58)); (case aB => exact (bl0_ HB.out)); (case aF => exact (fun _ _ => trivial)); (case aO => exact (kr_ HO_5.out)); (case aS => exact (below_size (bl0_ HB.out))); (case aL => have := LMc9.out; omega); intro v233 w10 ho hb hg hat; rw [← Ny232.out] at ho; have n0_ := Aside0.mk (hb); have n1_ := Aside0.mk (ho); clear HB; clear HO_5; have HB := n0_; have HO234 := n1_; clear n0_ n1_; clear ho hb hg hat))
             go_roundg k4
             case measure => have := HK1.out; have := HJ2.out; have := HK3.out; have := HK4.out; omega
             case rel => exact ⟨(y232), (wrap64 (x8_4 + 1)), rs_, H', ⟨by have := HK1.out; have := HJ2.out; have := HK3.out; have := HK4.out; omega⟩, ⟨kr_ HO234.out⟩, ⟨bl0_ HB.out⟩⟩
            ·rw [if_neg c9] at H
             exact absurd H (by simp)
           ·rw [if_neg c7] at H
            have c7b0 : decide ((wrap64 (x8_4 + x6_1)) ≤ a0) = false := decide_eq_false c7
            clear c7
            have H' := Aside0.mk H
            clear H
            go_wp2
            go_roundg k4
            case measure => have := HK1.out; have := HJ2.out; have := HK3.out; have := HK4.out; omega
            case rel => exact ⟨(x5_4), (wrap64 (x7_3 + 1)), rs_, H', ⟨by have := HK1.out; have := HJ2.out; have := HK3.out; have := HK4.out; omega⟩, ⟨kr_ HO_5.out⟩, ⟨bl0_ HB.out⟩⟩
        ·rw [if_neg c6] at H
         have c6b0 : decide ((wrap64 (x7_3 + x6_1)) ≤ a1) = false := decide_eq_false c6
         clear c6
         have H' := Aside0.mk H
         clear H
         go_wp2
         go_roundg k3
         case measure => have := HK1.out; have := HJ2.out; have := HK3.out; omega
         case rel => exact ⟨(x5_3), (wrap64 (x6_1 + 1)), rs_, H', ⟨by have := HK1.out; have := HJ2.out; have := HK3.out; omega⟩, ⟨kr_ HO_5.out⟩, ⟨bl0_ HB.out⟩⟩
     ·replace c5 := Bool.eq_false_iff.mpr c5
      subst c5
      have H1 : (some x5_1) = some r := by rw [if_neg (show ¬ (false = true) by decide)] at H; exact H
      clear H
      have H := H1
      clear H1
      obtain rfl := Option.some.inj H
      go_wp2
      go_ret
      exact ⟨_, er_, by (with_reducible repeat (first | apply Kd.R_alloc | apply Kd.R_drewN | apply Kd.R_drew)); exact HO_5.out, bl0_ HB.out⟩


def spec_SquaresOf.l0 : Nat → Int → List (List Int) → List (S58) → Int → Int → Option ((List (List Int)) × Bool)
 | 0, _, _, _, _, _ => none
 | k + 1, x4, x5, x17, x18, x19 => if x19 < x18 then (if 0 ≤ x19 then (if x19 < (x17.length : Int) then (if (Go.bits .and .i64 x4 ((rd_T58 x17 x19).f3)) = ((rd_T58 x17 x19).f3) then (if x5.length < 5864062014805 then (spec_SquaresOf.l0 k x4 (x5 ++ [(([(rd_T58 x17 x19).f0, (rd_T58 x17 x19).f1, (rd_T58 x17 x19).f2] : List Int))]) x17 x18 (wrap64 (x19 + 1))) else (none)) else (spec_SquaresOf.l0 k x4 x5 x17 x18 (wrap64 (x19 + 1)))) else (none)) else (none)) else (some (x5, true))
def spec_SquaresOf.f (k : Nat) (a0_0 : Int) (a0_1 : Int) (l0_2 : List Int) (l0_3 : List Int) : Option ((List (List Int)) × Bool) := (spec_fiGood.f k a0_0 a0_1 l0_2 l0_3).bind fun t236 => (if t236 = true then ((spec_sqMask.f k a0_0 a0_1 l0_2 l0_3).bind fun t237 => ((spec_sqAll.f k a0_0 a0_1).bind fun t238 => (spec_SquaresOf.l0 k t237 ([] : List (List Int)) t238 (t238.length : Int) 0))) else (some (([] : List (List Int)), false)))
theorem spec_SquaresOf.mono_l : ∀ k, (∀ y0 y1 y2 y3 y4, LeO (spec_SquaresOf.l0 k y0 y1 y2 y3 y4) (spec_SquaresOf.l0 (k + 1) y0 y1 y2 y3 y4))
 | 0 => fun _ _ _ _ _ r h => by simp [spec_SquaresOf.l0] at h
 | k + 1 => by
  have ih0 := spec_SquaresOf.mono_l k
  ·intro y0 y1 y2 y3 y4
   unfold spec_SquaresOf.l0
   repeat' first
   | (with_reducible exact ih0 _ _ _ _ _)
   | (with_reducible exact spec_fiGood.mono _ _ _ _ _)
   | (with_reducible exact spec_sqAll.mono _ _ _)
   | (with_reducible exact spec_sqMask.mono _ _ _ _ _)
   | (with_reducible exact LeO.refl _)
   | (with_reducible exact LeO.none _)
   | (with_reducible refine LeO.ite ?_ ?_)
   | (with_reducible refine LeO.bind ?_ (fun _ => ?_))
   | exact ih0 _ _ _ _ _
   | exact spec_fiGood.mono _ _ _ _ _
   | exact spec_sqAll.mono _ _ _
   | exact spec_sqMask.mono _ _ _ _ _
   | exact LeO.none _
   | refine LeO.ite ?_ ?_
   | refine LeO.bind ?_ (fun _ => ?_)
theorem spec_SquaresOf.mono : ∀ a0 a1 a2 a3 k, LeO (spec_SquaresOf.f k a0 a1 a2 a3) (spec_SquaresOf.f (k + 1) a0 a1 a2 a3) := by
 intro a0 a1 a2 a3 k
 have ih0 := spec_SquaresOf.mono_l k
 unfold spec_SquaresOf.f
 repeat' first
   | (with_reducible exact ih0 _ _ _ _ _)
   | (with_reducible exact spec_fiGood.mono _ _ _ _ _)
   | (with_reducible exact spec_sqAll.mono _ _ _)
   | (with_reducible exact spec_sqMask.mono _ _ _ _ _)
   | (with_reducible exact LeO.refl _)
   | (with_reducible exact LeO.none _)
   | (with_reducible refine LeO.ite ?_ ?_)
   | (with_reducible refine LeO.bind ?_ (fun _ => ?_))
   | exact ih0 _ _ _ _ _
   | exact spec_fiGood.mono _ _ _ _ _
   | exact spec_sqAll.mono _ _ _
   | exact spec_sqMask.mono _ _ _ _ _
   | exact LeO.none _
   | refine LeO.ite ?_ ?_
   | refine LeO.bind ?_ (fun _ => ?_)
set_option maxHeartbeats 8000000 in
set_option maxRecDepth 100000 in
theorem spec_SquaresOf.calls (k : Nat) (a0_0 : Int) (a0_1 : Int) (A0_2 : Option Addr) (c0_2 : Nat) (l0_2 : List Int) (A0_3 : Option Addr) (c0_3 : Nat) (l0_3 : List Int) (r1 : List (List Int)) (r2 : Bool) (w : World) (hr0_2 : Kd.C (Kd.int .i64) w A0_2 l0_2.length l0_2) (hc0_2 : l0_2.length ≤ c0_2) (hr0_3 : Kd.C (Kd.int .i64) w A0_3 l0_3.length l0_3) (hc0_3 : l0_3.length ≤ c0_3) (h : spec_SquaresOf.f k a0_0 a0_1 l0_2 l0_3 = some (r1, r2)) :
  Calls Try.prog 15 #[.agg #[.int .i64 a0_0, .int .i64 a0_1, .slice A0_2 l0_2.length c0_2, .slice A0_3 l0_3.length c0_3]] w fun e w' => ∃ v0_ : Value, e = .returned (.tuple #[v0_, .bool r2]) ∧ Kd.S (Kd.slice 3 (Kd.int .i64)) 22 w' w.heap.size (fun _ => True) v0_ r1 ∧ Below w.heap.size w w' := by
 have hu28 := Try.underlying28
 have hu58 := Try.underlying58
 have HR0_2 := Aside0.mk hr0_2
 have HC0_2 := Aside0.mk hc0_2
 clear hr0_2 hc0_2
 have HR0_3 := Aside0.mk hr0_3
 have HC0_3 := Aside0.mk hc0_3
 clear hr0_3 hc0_3
 have HB := Aside0.mk (Below.refl w.heap.size w)
 have H : ((spec_fiGood.f k a0_0 a0_1 l0_2 l0_3).bind fun t236 => (if t236 = true then ((spec_sqMask.f k a0_0 a0_1 l0_2 l0_3).bind fun t237 => ((spec_sqAll.f k a0_0 a0_1).bind fun t238 => (spec_SquaresOf.l0 k t237 ([] : List (List Int)) t238 (t238.length : Int) 0))) else (some (([] : List (List Int)), false)))) = some (r1, r2) := h
 clear h
 replace H := Option.bind_eq_some_iff.mp H
 obtain ⟨t236, A20, H⟩ := H
 replace H : (if t236 = true then ((spec_sqMask.f k a0_0 a0_1 l0_2 l0_3).bind fun t237 => ((spec_sqAll.f k a0_0 a0_1).bind fun t238 => (spec_SquaresOf.l0 k t237 ([] : List (List Int)) t238 (t238.length : Int) 0))) else (some (([] : List (List Int)), false))) = some (r1, r2) := H
 have A2 := Aside0.mk A20
 clear A20
 by_cases c3 : t236 = true
 ·subst c3
  have H1 : ((spec_sqMask.f k a0_0 a0_1 l0_2 l0_3).bind fun t237 => ((spec_sqAll.f k a0_0 a0_1).bind fun t238 => (spec_SquaresOf.l0 k t237 ([] : List (List Int)) t238 (t238.length : Int) 0))) = some (r1, r2) := by rw [if_pos rfl] at H; exact H
  clear H
  have H := H1
  clear H1
  replace H := Option.bind_eq_some_iff.mp H
  obtain ⟨t237, A40, H⟩ := H
  replace H : ((spec_sqAll.f k a0_0 a0_1).bind fun t238 => (spec_SquaresOf.l0 k t237 ([] : List (List Int)) t238 (t238.length : Int) 0)) = some (r1, r2) := H
  have A4 := Aside0.mk A40
  clear A40
  replace H := Option.bind_eq_some_iff.mp H
  obtain ⟨t238, A50, H⟩ := H
  replace H : (spec_SquaresOf.l0 k t237 ([] : List (List Int)) t238 (t238.length : Int) 0) = some (r1, r2) := H
  have A5 := Aside0.mk A50
  clear A50
  have H' := Aside0.mk H
  clear H
  go_enter Try.func15, Try.ntmps15
  go_wp2_with (first | ((with_reducible refine gate_dst (N := 1) rfl ?_); refine boxE_ (N := 1) (cs := #[.int .i64 a0_0, .int .i64 a0_1, .slice A0_2 l0_2.length c0_2, .slice A0_3 l0_3.length c0_3]) (t := 28) ?_; intro gb235 hg w6 hbox hb; have n0_ := Aside0.mk (below_step (bl0_ HB.out) hb); have n1_ := Aside0.mk (hbox); have n2_ := Aside0.mk ((bs0_ hg HB.out : w.heap.size ≤ gb235)); have n3_ := Aside0.mk ((bs0_ hg HB.out : w.heap.size ≤ gb235)); clear HB; have HB := n0_; have BK235 := n1_; have GW235 := n2_; have GE235 := n3_; clear n0_ n1_ n2_ n3_; clear hb hbox hg; have hcz7_0 : w6.cell? ⟨gb235, 0, none⟩ = some (.int .i64 a0_0) := (blk_cell BK235.out 0).trans rfl; have hcz7_1 : w6.cell? ⟨gb235, 1, none⟩ = some (.int .i64 a0_1) := (blk_cell BK235.out 1).trans rfl; have hcz7_2 : w6.cell? ⟨gb235, 2, none⟩ = some (.slice A0_2 l0_2.length c0_2) := (blk_cell BK235.out 2).trans rfl; have hcz7_3 : w6.cell? ⟨gb235, 3, none⟩ = some (.slice A0_3 l0_3.length c0_3) := (blk_cell BK235.out 3).trans rfl; have hfz7_0 := blk_frozen BK235.out 0; have hfz7_1 := blk_frozen BK235.out 1; have hfz7_2 := blk_frozen BK235.out 2; have hfz7_3 := blk_frozen BK235.out 3) | ((with_reducible refine gate_callee (f := 34) rfl ?_); refine goesL_ (some 9) rfl rfl Try.func34 (by kernel_rfl) rfl #[.agg #[.int .i64 a0_0, .int .i64 a0_1, .slice A0_2 l0_2.length c0_2, .slice A0_3 l0_3.length c0_3]] rfl ob_ ?_; (with_reducible refine (spec_fiGood.calls k a0_0 a0_1 _ _ l0_2 _ _ l0_3 true _ ?side1 ?side2 ?side3 ?side4 A2.out).mono ?_); (case side1 => exact kc_ (Kd.C_below HR0_2.out HB.out)); (case side2 => exact HC0_2.out); (case side3 => exact kc_ (Kd.C_below HR0_3.out HB.out)); (case side4 => exact HC0_3.out); rintro e w8 ⟨rfl, hb⟩; refine ⟨_, rfl, ?_⟩; have n0_ := Aside0.mk (bb_ BK235.out hb); have n1_ := Aside0.mk (below_step (bl1_ HB.out GE235.out) hb); clear BK235; clear HB; have BK235 := n0_; have HB := n1_; clear n0_ n1_; (try clear hb); (try clear hb2); (try clear hk); (try clear hi); have hcz9_0 : w8.cell? ⟨gb235, 0, none⟩ = some (.int .i64 a0_0) := (blk_cell BK235.out 0).trans rfl; have hcz9_1 : w8.cell? ⟨gb235, 1, none⟩ = some (.int .i64 a0_1) := (blk_cell BK235.out 1).trans rfl; have hcz9_2 : w8.cell? ⟨gb235, 2, none⟩ = some (.slice A0_2 l0_2.length c0_2) := (blk_cell BK235.out 2).trans rfl; have hcz9_3 : w8.cell? ⟨gb235, 3, none⟩ = some (.slice A0_3 l0_3.length c0_3) := (blk_cell BK235.out 3).trans rfl; have hfz9_0 := blk_frozen BK235.out 0; have hfz9_1 := blk_frozen BK235.out 1; have hfz9_2 := blk_frozen BK235.out 2; have hfz9_3 := blk_frozen BK235.out 3) | ((with_reducible refine gate_callee (f := 40) rfl ?_); refine goesL_ (some 12) rfl rfl Try.func40 (by kernel_rfl) rfl #[.agg #[.int .i64 a0_0, .int .i64 a0_1, .slice A0_2 l0_2.length c0_2, .slice A0_3 l0_3.length c0_3]] rfl ob_ ?_; (with_reducible refine (spec_sqMask.calls k a0_0 a0_1 _ _ l0_2 _ _ l0_3 t237 _ ?side1 ?side2 ?side3 ?side4 A4.out).mono ?_); (case side1 => exact kc_ (Kd.C_below HR0_2.out HB.out)); (case side2 => exact HC0_2.out); (case side3 => exact kc_ (Kd.C_below HR0_3.out HB.out)); (case side4 => exact HC0_3.out); rintro e w10 ⟨rfl, hb⟩; refine ⟨_, rfl, ?_⟩; have n0_ := Aside0.mk (bb_ BK235.out hb); have n1_ := Aside0.mk (below_step (bl1_ HB.out GE235.out) hb); clear BK235; clear HB; have BK235 := n0_; have HB := n1_; clear n0_ n1_; (try clear hb); (try clear hb2); (try clear hk); (try clear hi); have hcz11_0 : w10.cell? ⟨gb235, 0, none⟩ = some (.int .i64 a0_0) := (blk_cell BK235.out 0).trans rfl; have hcz11_1 : w10.cell? ⟨gb235, 1, none⟩ = some (.int .i64 a0_1) := (blk_cell BK235.out 1).trans rfl; have hcz11_2 : w10.cell? ⟨gb235, 2, none⟩ = some (.slice A0_2 l0_2.length c0_2) := (blk_cell BK235.out 2).trans rfl; have hcz11_3 : w10.cell? ⟨gb235, 3, none⟩ = some (.slice A0_3 l0_3.length c0_3) := (blk_cell BK235.out 3).trans rfl; have hfz11_0 := blk_frozen BK235.out 0; have hfz11_1 := blk_frozen BK235.out 1; have hfz11_2 := blk_frozen BK235.out 2; have hfz11_3 := blk_frozen BK235.out 3) | ((with_reducible refine gate_callee (f := 41) rfl ?_); refine goesL_ (some 17) rfl rfl Try.func41 (by kernel_rfl) rfl #[.int .i64 a0_0, .int .i64 a0_1] rfl ob_ ?_; (with_reducible refine (spec_sqAll.calls k a0_0 a0_1 t238 _ A5.out).mono ?_); rintro e w12 ⟨v239, rfl, ho0, hb⟩; refine ⟨_, rfl, ?_⟩; have n0_ := Aside0.mk (Kd.R_lower ho0 (below_size (bl1_ HB.out GE235.out))); have n1_ := Aside0.mk (bb_ BK235.out hb); have n2_ := Aside0.mk (below_step (bl1_ HB.out GE235.out) hb); clear BK235; clear HB; have HO240 := n0_; have BK235 := n1_; have HB := n2_; clear n0_ n1_ n2_; (try clear hb); (try clear hb2); (try clear hk); (try clear hi); (try clear ho0); obtain ⟨Ao13, co13, eo13⟩ := Kd.R_slice HO240.out; subst eo13))
  go_loopg [5, 19] k (fun kq v5 v19 w' => ∃ (x5_1 : List (List Int)) (x19_1 : Int), v19 = .int .i64 x19_1 ∧ Aside0 (spec_SquaresOf.l0 kq t237 x5_1 t238 (t238.length : Int) x19_1 = some (r1, r2)) ∧ Aside0 (kq ≤ k) ∧ Aside0 (Kd.S (Kd.slice 3 (Kd.int .i64)) 22 w' w.heap.size (fun _ => True) v5 x5_1) ∧ Aside0 (Kd.R k58 58 w' w.heap.size (fun _ => True) (.slice Ao13 t238.length co13) t238) ∧ Aside0 (w'.heap[gb235]? = some (.cells #[.int .i64 a0_0, .int .i64 a0_1, (.slice A0_2 l0_2.length c0_2), (.slice A0_3 l0_3.length c0_3)] 28 (0, 0))) ∧ Aside0 (Below w.heap.size w w'))
  case atStart => exact ⟨(([] : List (List Int))), (0), rs_, H', ⟨Nat.le_refl _⟩, ⟨by first | exact Kd.S_nil _ _ _ _ _ | exact Kd.N_nil _ _ _ _ _ | exact Kd.V_nil _ _ _ _ _ | exact Kd.Q_nil _ _ _ _ _ | exact Kd.R_nil _ _ _ _ _⟩, ⟨kr_ HO240.out⟩, ⟨bk_ BK235.out⟩, ⟨bl1_ HB.out GE235.out⟩⟩
  case round =>
   clear H'
   try clear c1
   try clear p2
   try clear c3
   try clear c4
   try clear hcz11_0
   try clear hcz11_1
   try clear hcz11_2
   try clear hcz11_3
   try clear hcz7_0
   try clear hcz7_1
   try clear hcz7_2
   try clear hcz7_3
   try clear hcz9_0
   try clear hcz9_1
   try clear hcz9_2
   try clear hcz9_3
   try clear hfz11_0
   try clear hfz11_1
   try clear hfz11_2
   try clear hfz11_3
   try clear hfz7_0
   try clear hfz7_1
   try clear hfz7_2
   try clear hfz7_3
   try clear hfz9_0
   try clear hfz9_1
   try clear hfz9_2
   try clear hfz9_3
   obtain ⟨x5_1, x19_1, rfl, HA, HK1, HO_5, HO_17, BK235, HB⟩ := hrel
   cases gk with
   | zero => exact absurd HA.out (by simp [spec_SquaresOf.l0])
   | succ k1 =>
    have H := HA.out
    clear HA
    simp only [spec_SquaresOf.l0] at H
    by_cases c14 : x19_1 < (t238.length : Int)
    ·rw [if_pos c14] at H
     have c14b0 : decide (x19_1 < (t238.length : Int)) = true := decide_eq_true c14
     clear c14
     by_cases c15 : 0 ≤ x19_1
     ·rw [if_pos c15] at H
      have c15b0 : decide (0 ≤ x19_1) = true := decide_eq_true c15
      clear c15
      by_cases c16 : x19_1 < (t238.length : Int)
      ·rw [if_pos c16] at H
       have c16b0 : decide (x19_1 < (t238.length : Int)) = true := decide_eq_true c16
       clear c16
       by_cases c17 : (Go.bits .and .i64 t237 ((rd_T58 t238 x19_1).f3)) = ((rd_T58 t238 x19_1).f3)
       ·rw [if_pos c17] at H
        have c17b0 : ((Go.bits .and .i64 t237 ((rd_T58 t238 x19_1).f3)) == ((rd_T58 t238 x19_1).f3)) = true := beq_iff_eq.mpr c17
        have c17b1 : ((Go.bits .and .i64 t237 ((rd_T58 t238 x19_1).f3)) != ((rd_T58 t238 x19_1).f3)) = false := bne_eq_false_iff_eq.mpr c17
        clear c17
        obtain ⟨y243, hy243⟩ : ∃ y_ : List Int, y_ = (([(rd_T58 t238 x19_1).f0, (rd_T58 t238 x19_1).f1, (rd_T58 t238 x19_1).f2] : List Int)) := ⟨_, rfl⟩
        replace H : (if x5_1.length < 5864062014805 then (spec_SquaresOf.l0 k1 t237 (x5_1 ++ [y243]) t238 (t238.length : Int) (wrap64 (x19_1 + 1))) else (none)) = some (r1, r2) := by first | (rw [hy243]; with_reducible exact H) | (have H2_ := (Option.bind_some _ _).symm.trans H; rw [hy243]; with_reducible exact H2_) | (have H2_ := (Option.bind_some _ _).symm.trans H; with_reducible exact H2_) | with_reducible exact H | (rw [hy243]; exact H) | exact H
        have Ny243 := Aside0.mk hy243
        clear hy243
        by_cases c18 : x5_1.length < 5864062014805
        ·rw [if_pos c18] at H
         have LMc18 := Aside0.mk c18
         clear c18
         obtain ⟨y246, hy246⟩ : ∃ y_ : List (List Int), y_ = (x5_1 ++ [y243]) := ⟨_, rfl⟩
         replace H : (spec_SquaresOf.l0 k1 t237 y246 t238 (t238.length : Int) (wrap64 (x19_1 + 1))) = some (r1, r2) := by first | (rw [hy246]; with_reducible exact H) | (have H2_ := (Option.bind_some _ _).symm.trans H; rw [hy246]; with_reducible exact H2_) | (have H2_ := (Option.bind_some _ _).symm.trans H; with_reducible exact H2_) | with_reducible exact H | (rw [hy246]; exact H) | exact H
         have Ny246 := Aside0.mk hy246
         clear hy246
         have H' := Aside0.mk H
         clear H
         have p241 : 0 ≤ (x19_1 : Int) := of_decide_eq_true as_
         have q241 : x19_1 < (t238.length : Int) := of_decide_eq_true as_
         obtain ⟨ad241, e241, hx241_0, hx241_1, hx241_2, hx241_3⟩ := at_T58 (Kd.R_reads' HO_17.out).2.2 x19_1 p241 q241
         cases e241
         replace p241 := eq_true p241
         replace q241 := eq_true q241
         go_wp2_with (first | ((with_reducible refine gate_dst (N := 7) rfl ?_); refine boxE_ (N := 7) (cs := #[.int .i64 0, .int .i64 0, .int .i64 0, .int .i64 0]) (t := 58) ?_; intro gb242 hg w19 hbox hb; have n0_ := Aside0.mk (Kd.S_below (by (with_reducible repeat (first | apply Kd.S_alloc | apply Kd.S_drewN | apply Kd.S_drew)); exact HO_5.out) hb); have n1_ := Aside0.mk (Kd.R_below (Kd.R_elderB (kr_ HO_17.out) gb242 (Nat.le_of_eq hg.symm)) hb); have n2_ := Aside0.mk (bb_ BK235.out hb); have n3_ := Aside0.mk (below_step (bl1_ HB.out GE235.out) hb); have n4_ := Aside0.mk (hbox); have n5_ := Aside0.mk ((bs1_ hg HB.out GE235.out : w.heap.size ≤ gb242)); have n6_ := Aside0.mk ((bs1_ hg HB.out GE235.out : w.heap.size ≤ gb242)); have n7_ := Aside0.mk ((nl_ hg BK235.out : gb235 ≠ gb242)); have n8_ := Aside0.mk ((ng_ hg BK235.out : gb242 ≠ gb235)); clear HO_5; clear HO_17; clear BK235; clear HB; have HO_5 := n0_; have HO_17 := n1_; have BK235 := n2_; have HB := n3_; have BK242 := n4_; have GW242 := n5_; have GE242 := n6_; have NB235_242 := n7_; have NB242_235 := n8_; clear n0_ n1_ n2_ n3_ n4_ n5_ n6_ n7_ n8_; clear hb hbox hg; have hnb20 := NB242_235.out; have hnc20 := NB235_242.out; have hcz21_0 : w19.cell? ⟨gb242, 0, none⟩ = some (.int .i64 0) := (blk_cell BK242.out 0).trans rfl; have hcz21_1 : w19.cell? ⟨gb242, 1, none⟩ = some (.int .i64 0) := (blk_cell BK242.out 1).trans rfl; have hcz21_2 : w19.cell? ⟨gb242, 2, none⟩ = some (.int .i64 0) := (blk_cell BK242.out 2).trans rfl; have hcz21_3 : w19.cell? ⟨gb242, 3, none⟩ = some (.int .i64 0) := (blk_cell BK242.out 3).trans rfl; have hfz21_0 := blk_frozen BK242.out 0; have hfz21_1 := blk_frozen BK242.out 1; have hfz21_2 := blk_frozen BK242.out 2; have hfz21_3 := blk_frozen BK242.out 3) | ((with_reducible refine gate_dst (N := 37) rfl ?_); refine Kd.R_lit (Kd.int .i64) _ 3 ?hg (N := 37) ?hd (xs := ([(rd_T58 t238 x19_1).f0, (rd_T58 t238 x19_1).f1, (rd_T58 t238 x19_1).f2] : List Int)) (inner := [.int .i64 ((rd_T58 t238 x19_1).f0), .int .i64 ((rd_T58 t238 x19_1).f1), .int .i64 ((rd_T58 t238 x19_1).f2)]) (ok := fun _ => True) (okp := fun _ => True) ?hr ?hp (fun _ hk => hk) trivial (Below.refl _ _) (Nat.le_refl _) (by simp) ?_; (case hd => rfl); (case hg => rfl); (case hr => first | (go_simp; done) | (go_simp; rfl)); (case hp => exact (Reps.one (show Kd.M (Kd.int .i64) _ _ _ ((rd_T58 t238 x19_1).f0) [.int .i64 ((rd_T58 t238 x19_1).f0)] from rfl) (Reps.one (show Kd.M (Kd.int .i64) _ _ _ ((rd_T58 t238 x19_1).f1) [.int .i64 ((rd_T58 t238 x19_1).f1)] from rfl) (Reps.one (show Kd.M (Kd.int .i64) _ _ _ ((rd_T58 t238 x19_1).f2) [.int .i64 ((rd_T58 t238 x19_1).f2)] from rfl) (Reps.none _ _))))); intro v244 w22 ho23 hb hg_ hnew_; clear hg_ hnew_; (first | rw [← Ny243.out] at ho23 | (simp only [Int.reduceToNat] at ho23; rw [← Ny243.out] at ho23)); have n0_ := Aside0.mk (Kd.S_elder' (by (with_reducible repeat (first | apply Kd.S_alloc | apply Kd.S_drewN | apply Kd.S_drew)); exact (Kd.S_mono (Kd.S_far (p := ⟨gb242, 3, none⟩) (Kd.S_far (p := ⟨gb242, 2, none⟩) (Kd.S_far (p := ⟨gb242, 1, none⟩) (Kd.S_far (p := ⟨gb242, 0, none⟩) (Kd.S_types HO_5.out BK242.out (by decide)) (fun _ hk => hk.2) (.int .i64 ((rd_T58 t238 x19_1).f0))) (fun _ hk => hk.2) (.int .i64 ((rd_T58 t238 x19_1).f1))) (fun _ hk => hk.2) (.int .i64 ((rd_T58 t238 x19_1).f2))) (fun _ hk => hk.2) (.int .i64 ((rd_T58 t238 x19_1).f3))) (fun _ h_ => h_.1))) (Kd.R_base ho23) hb); have n1_ := Aside0.mk (Kd.R_below (by (with_reducible repeat (first | apply Kd.R_alloc | apply Kd.R_drewN | apply Kd.R_drew)); exact (Kd.R_mono (Kd.R_far (p := ⟨gb242, 3, none⟩) (Kd.R_far (p := ⟨gb242, 2, none⟩) (Kd.R_far (p := ⟨gb242, 1, none⟩) (Kd.R_far (p := ⟨gb242, 0, none⟩) (Kd.R_mono HO_17.out (fun k_ hk => (⟨hk, hk.2⟩ : _ ∧ k_ ≠ gb242))) (fun _ hk => hk.2) (.int .i64 ((rd_T58 t238 x19_1).f0))) (fun _ hk => hk.2) (.int .i64 ((rd_T58 t238 x19_1).f1))) (fun _ hk => hk.2) (.int .i64 ((rd_T58 t238 x19_1).f2))) (fun _ hk => hk.2) (.int .i64 ((rd_T58 t238 x19_1).f3))) (fun _ h_ => h_.1))) hb); have n2_ := Aside0.mk (Kd.R_lower ho23 (below_size (bl2_ HB.out GE235.out GE242.out))); have n3_ := Aside0.mk (blk_below (g := gb235) (o := .cells #[.int .i64 a0_0, .int .i64 a0_1, .slice A0_2 l0_2.length c0_2, .slice A0_3 l0_3.length c0_3] 28 (0, 0)) (bf4_ NB235_242.out NB235_242.out NB235_242.out NB235_242.out BK235.out) hb); have n4_ := Aside0.mk (blk_below (g := gb242) (o := .cells #[.int .i64 ((rd_T58 t238 x19_1).f0), .int .i64 ((rd_T58 t238 x19_1).f1), .int .i64 ((rd_T58 t238 x19_1).f2), .int .i64 ((rd_T58 t238 x19_1).f3)] 58 (0, 0)) (by (with_reducible repeat (first | refine blk_drewN ?_ _ | refine blk_drew ?_ | refine blk_alloc ?_ _)); refine blk_put (cs := #[.int .i64 ((rd_T58 t238 x19_1).f0), .int .i64 ((rd_T58 t238 x19_1).f1), .int .i64 ((rd_T58 t238 x19_1).f2), .int .i64 0]) ?_ 3 _ rfl; (with_reducible repeat (first | refine blk_drewN ?_ _ | refine blk_drew ?_ | refine blk_alloc ?_ _)); refine blk_put (cs := #[.int .i64 ((rd_T58 t238 x19_1).f0), .int .i64 ((rd_T58 t238 x19_1).f1), .int .i64 0, .int .i64 0]) ?_ 2 _ rfl; (with_reducible repeat (first | refine blk_drewN ?_ _ | refine blk_drew ?_ | refine blk_alloc ?_ _)); refine blk_put (cs := #[.int .i64 ((rd_T58 t238 x19_1).f0), .int .i64 0, .int .i64 0, .int .i64 0]) ?_ 1 _ rfl; (with_reducible repeat (first | refine blk_drewN ?_ _ | refine blk_drew ?_ | refine blk_alloc ?_ _)); refine blk_put (cs := #[.int .i64 0, .int .i64 0, .int .i64 0, .int .i64 0]) ?_ 0 _ rfl; (with_reducible repeat (first | refine blk_drewN ?_ _ | refine blk_drew ?_ | refine blk_alloc ?_ _)); exact BK242.out) hb); have n5_ := Aside0.mk (below_step (bl2_ HB.out GE235.out GE242.out) hb); clear HO_5; clear HO_17; clear BK235; clear BK242; clear HB; have HO_5 := n0_; have HO_17 := n1_; have HO245 := n2_; have BK235 := n3_; have BK242 := n4_; have HB := n5_; clear n0_ n1_ n2_ n3_ n4_ n5_; clear hb ho23; obtain ⟨Ao25, co25, eo25⟩ := Kd.R_slice HO245.out; subst eo25) | ((with_reducible refine gate_builtin (b := .append) (xs := #[.tmp 30, .tmp 38]) rfl ?_); at_builtin; refine Kd.S_append (Kd.slice 3 (Kd.int .i64)) (w0 := w) w.heap.size rfl (.tmp 30) (.tmp 38) 32 22 (.slice none 0 0) 24 rfl Try.underlying32 info22 rfl (by decide) (by omega) u5 x5_1 y243 [.slice Ao25 y243.length co25] (fun _ => True) (fun k_ => some k_ = (.slice Ao25 y243.length co25 : Value).ownBlock) rfl rfl ?aP (fun k_ hk_ => ((Kd.R_mono (ok' := fun k_ => ((fun _ => True)) k_ ∧ some k_ ≠ (u5 : Value).ownBlock) (Kd.R_apart' (HO245.out) (Kd.S_typed HO_5.out) (by decide)) (fun k_ hk => ⟨trivial, hk.2⟩))).1 k_ hk_.symm) ?aF ?aO ?aB ?aS ?aL ?_; (case aP => exact Kd.M_row (Kd.R_mono (Kd.R_tight rfl (Kd.R_mono (ok' := fun k_ => ((fun _ => True)) k_ ∧ some k_ ≠ (u5 : Value).ownBlock) (Kd.R_apart' (HO245.out) (Kd.S_typed HO_5.out) (by decide)) (fun k_ hk => ⟨trivial, hk.2⟩))) (fun _ h_ => h_))); (case aB => exact (bl2_ HB.out GE235.out GE242.out)); (case aF => exact (fun _ _ => trivial)); (case aO => exact (by (with_reducible repeat (first | apply Kd.S_alloc | apply Kd.S_drewN | apply Kd.S_drew)); exact Kd.S_mono HO_5.out (fun k_ hk => ⟨trivial, fun e_ => hk.2 e_⟩))); (case aS => exact (below_size (bl2_ HB.out GE235.out GE242.out))); (case aL => have := LMc18.out; omega); intro v247 w24 ho hb hg hat; rw [← Ny246.out] at ho; have n0_ := Aside0.mk (Kd.R_over' (kr_ HO_17.out) (Kd.S_typed (by (with_reducible repeat (first | apply Kd.S_alloc | apply Kd.S_drewN | apply Kd.S_drew)); exact HO_5.out)) (by decide) hg); have n1_ := Aside0.mk (blk_grown (g := gb235) (o := .cells #[.int .i64 a0_0, .int .i64 a0_1, .slice A0_2 l0_2.length c0_2, .slice A0_3 l0_3.length c0_3] 28 (0, 0)) (bk_ BK235.out) hg (Kd.S_ne HO_5.out BK235.out (by decide))); have n2_ := Aside0.mk (blk_grown (g := gb242) (o := .cells #[.int .i64 ((rd_T58 t238 x19_1).f0), .int .i64 ((rd_T58 t238 x19_1).f1), .int .i64 ((rd_T58 t238 x19_1).f2), .int .i64 ((rd_T58 t238 x19_1).f3)] 58 (0, 0)) (bk_ BK242.out) hg (Kd.S_ne HO_5.out BK242.out (by decide))); have n3_ := Aside0.mk (hb); have n4_ := Aside0.mk (ho); clear HO_17; clear BK235; clear BK242; clear HB; clear HO_5; clear HO245; have HO_17 := n0_; have BK235 := n1_; have BK242 := n2_; have HB := n3_; have HO248 := n4_; clear n0_ n1_ n2_ n3_ n4_; clear ho hb hg hat))
         go_roundg k1
         case measure => have := HK1.out; omega
         case rel => exact ⟨(y246), (wrap64 (x19_1 + 1)), rs_, H', ⟨by have := HK1.out; omega⟩, ⟨by (with_reducible repeat (first | apply Kd.S_alloc | apply Kd.S_drewN | apply Kd.S_drew)); exact HO248.out⟩, ⟨by (with_reducible repeat (first | apply Kd.R_alloc | apply Kd.R_drewN | apply Kd.R_drew)); exact Kd.R_mono HO_17.out (fun _ hk => trivial)⟩, ⟨bk_ BK235.out⟩, ⟨bl2_ HB.out GE235.out GE242.out⟩⟩
        ·rw [if_neg c18] at H
         exact absurd H (by simp)
       ·rw [if_neg c17] at H
        have c17b0 : ((Go.bits .and .i64 t237 ((rd_T58 t238 x19_1).f3)) == ((rd_T58 t238 x19_1).f3)) = false := beq_eq_false_iff_ne.mpr c17
        have c17b1 : ((Go.bits .and .i64 t237 ((rd_T58 t238 x19_1).f3)) != ((rd_T58 t238 x19_1).f3)) = true := bne_iff_ne.mpr c17
        have H' := Aside0.mk H
        clear H
        have p241 : 0 ≤ (x19_1 : Int) := of_decide_eq_true as_
        have q241 : x19_1 < (t238.length : Int) := of_decide_eq_true as_
        obtain ⟨ad241, e241, hx241_0, hx241_1, hx241_2, hx241_3⟩ := at_T58 (Kd.R_reads' HO_17.out).2.2 x19_1 p241 q241
        cases e241
        replace p241 := eq_true p241
        replace q241 := eq_true q241
        go_wp2_with (first | ((with_reducible refine gate_dst (N := 7) rfl ?_); refine boxE_ (N := 7) (cs := #[.int .i64 0, .int .i64 0, .int .i64 0, .int .i64 0]) (t := 58) ?_; intro gb242 hg w26 hbox hb; have n0_ := Aside0.mk (Kd.S_below (by (with_reducible repeat (first | apply Kd.S_alloc | apply Kd.S_drewN | apply Kd.S_drew)); exact HO_5.out) hb); have n1_ := Aside0.mk (Kd.R_below (Kd.R_elderB (kr_ HO_17.out) gb242 (Nat.le_of_eq hg.symm)) hb); have n2_ := Aside0.mk (bb_ BK235.out hb); have n3_ := Aside0.mk (below_step (bl1_ HB.out GE235.out) hb); have n4_ := Aside0.mk (hbox); have n5_ := Aside0.mk ((bs1_ hg HB.out GE235.out : w.heap.size ≤ gb242)); have n6_ := Aside0.mk ((bs1_ hg HB.out GE235.out : w.heap.size ≤ gb242)); have n7_ := Aside0.mk ((nl_ hg BK235.out : gb235 ≠ gb242)); have n8_ := Aside0.mk ((ng_ hg BK235.out : gb242 ≠ gb235)); clear HO_5; clear HO_17; clear BK235; clear HB; have HO_5 := n0_; have HO_17 := n1_; have BK235 := n2_; have HB := n3_; have BK242 := n4_; have GW242 := n5_; have GE242 := n6_; have NB235_242 := n7_; have NB242_235 := n8_; clear n0_ n1_ n2_ n3_ n4_ n5_ n6_ n7_ n8_; clear hb hbox hg; have hnb27 := NB242_235.out; have hnc27 := NB235_242.out; have hcz28_0 : w26.cell? ⟨gb242, 0, none⟩ = some (.int .i64 0) := (blk_cell BK242.out 0).trans rfl; have hcz28_1 : w26.cell? ⟨gb242, 1, none⟩ = some (.int .i64 0) := (blk_cell BK242.out 1).trans rfl; have hcz28_2 : w26.cell? ⟨gb242, 2, none⟩ = some (.int .i64 0) := (blk_cell BK242.out 2).trans rfl; have hcz28_3 : w26.cell? ⟨gb242, 3, none⟩ = some (.int .i64 0) := (blk_cell BK242.out 3).trans rfl; have hfz28_0 := blk_frozen BK242.out 0; have hfz28_1 := blk_frozen BK242.out 1; have hfz28_2 := blk_frozen BK242.out 2; have hfz28_3 := blk_frozen BK242.out 3))
        go_roundg k1
        case measure => have := HK1.out; omega
        case rel => exact ⟨(x5_1), (wrap64 (x19_1 + 1)), rs_, H', ⟨by have := HK1.out; omega⟩, ⟨by (with_reducible repeat (first | apply Kd.S_alloc | apply Kd.S_drewN | apply Kd.S_drew)); exact Kd.S_mono (Kd.S_far (p := ⟨gb242, 3, none⟩) (Kd.S_far (p := ⟨gb242, 2, none⟩) (Kd.S_far (p := ⟨gb242, 1, none⟩) (Kd.S_far (p := ⟨gb242, 0, none⟩) (Kd.S_types HO_5.out BK242.out (by decide)) (fun _ hk => hk.2) (.int .i64 ((rd_T58 t238 x19_1).f0))) (fun _ hk => hk.2) (.int .i64 ((rd_T58 t238 x19_1).f1))) (fun _ hk => hk.2) (.int .i64 ((rd_T58 t238 x19_1).f2))) (fun _ hk => hk.2) (.int .i64 ((rd_T58 t238 x19_1).f3))) (fun _ hk => trivial)⟩, ⟨by (with_reducible repeat (first | apply Kd.R_alloc | apply Kd.R_drewN | apply Kd.R_drew)); exact Kd.R_mono (Kd.R_far (p := ⟨gb242, 3, none⟩) (Kd.R_far (p := ⟨gb242, 2, none⟩) (Kd.R_far (p := ⟨gb242, 1, none⟩) (Kd.R_far (p := ⟨gb242, 0, none⟩) (Kd.R_mono HO_17.out (fun k_ hk => (⟨hk, hk.2⟩ : _ ∧ k_ ≠ gb242))) (fun _ hk => hk.2) (.int .i64 ((rd_T58 t238 x19_1).f0))) (fun _ hk => hk.2) (.int .i64 ((rd_T58 t238 x19_1).f1))) (fun _ hk => hk.2) (.int .i64 ((rd_T58 t238 x19_1).f2))) (fun _ hk => hk.2) (.int .i64 ((rd_T58 t238 x19_1).f3))) (fun _ hk => trivial)⟩, ⟨bf4_ NB235_242.out NB235_242.out NB235_242.out NB235_242.out BK235.out⟩, ⟨bl2_ HB.out GE235.out GE242.out⟩⟩
      ·rw [if_neg c16] at H
       exact absurd H (by simp)
     ·rw [if_neg c15] at H
      exact absurd H (by simp)
    ·rw [if_neg c14] at H
     have c14b0 : decide (x19_1 < (t238.length : Int)) = false := decide_eq_false c14
     clear c14
     simp only [Option.some.injEq, Prod.mk.injEq] at H
     obtain ⟨rfl, rfl⟩ := H
     go_wp2
     go_ret2
     exact ⟨_, er_, by (with_reducible repeat (first | apply Kd.S_alloc | apply Kd.S_drewN | apply Kd.S_drew)); exact HO_5.out, bl1_ HB.out GE235.out⟩
 ·replace c3 := Bool.eq_false_iff.mpr c3
  subst c3
  have H1 : (some (([] : List (List Int)), false)) = some (r1, r2) := by rw [if_neg (show ¬ (false = true) by decide)] at H; exact H
  clear H
  have H := H1
  clear H1
  simp only [Option.some.injEq, Prod.mk.injEq] at H
  obtain ⟨rfl, rfl⟩ := H
  go_enter Try.func15, Try.ntmps15
  go_wp2_with (first | ((with_reducible refine gate_dst (N := 1) rfl ?_); refine boxE_ (N := 1) (cs := #[.int .i64 a0_0, .int .i64 a0_1, .slice A0_2 l0_2.length c0_2, .slice A0_3 l0_3.length c0_3]) (t := 28) ?_; intro gb235 hg w29 hbox hb; have n0_ := Aside0.mk (below_step (bl0_ HB.out) hb); have n1_ := Aside0.mk (hbox); have n2_ := Aside0.mk ((bs0_ hg HB.out : w.heap.size ≤ gb235)); have n3_ := Aside0.mk ((bs0_ hg HB.out : w.heap.size ≤ gb235)); clear HB; have HB := n0_; have BK235 := n1_; have GW235 := n2_; have GE235 := n3_; clear n0_ n1_ n2_ n3_; clear hb hbox hg; have hcz30_0 : w29.cell? ⟨gb235, 0, none⟩ = some (.int .i64 a0_0) := (blk_cell BK235.out 0).trans rfl; have hcz30_1 : w29.cell? ⟨gb235, 1, none⟩ = some (.int .i64 a0_1) := (blk_cell BK235.out 1).trans rfl; have hcz30_2 : w29.cell? ⟨gb235, 2, none⟩ = some (.slice A0_2 l0_2.length c0_2) := (blk_cell BK235.out 2).trans rfl; have hcz30_3 : w29.cell? ⟨gb235, 3, none⟩ = some (.slice A0_3 l0_3.length c0_3) := (blk_cell BK235.out 3).trans rfl; have hfz30_0 := blk_frozen BK235.out 0; have hfz30_1 := blk_frozen BK235.out 1; have hfz30_2 := blk_frozen BK235.out 2; have hfz30_3 := blk_frozen BK235.out 3) | ((with_reducible refine gate_callee (f := 34) rfl ?_); refine goesL_ (some 9) rfl rfl Try.func34 (by kernel_rfl) rfl #[.agg #[.int .i64 a0_0, .int .i64 a0_1, .slice A0_2 l0_2.length c0_2, .slice A0_3 l0_3.length c0_3]] rfl ob_ ?_; (with_reducible refine (spec_fiGood.calls k a0_0 a0_1 _ _ l0_2 _ _ l0_3 false _ ?side1 ?side2 ?side3 ?side4 A2.out).mono ?_); (case side1 => exact kc_ (Kd.C_below HR0_2.out HB.out)); (case side2 => exact HC0_2.out); (case side3 => exact kc_ (Kd.C_below HR0_3.out HB.out)); (case side4 => exact HC0_3.out); rintro e w31 ⟨rfl, hb⟩; refine ⟨_, rfl, ?_⟩; have n0_ := Aside0.mk (bb_ BK235.out hb); have n1_ := Aside0.mk (below_step (bl1_ HB.out GE235.out) hb); clear BK235; clear HB; have BK235 := n0_; have HB := n1_; clear n0_ n1_; (try clear hb); (try clear hb2); (try clear hk); (try clear hi)))
  go_ret2
  exact ⟨_, er_, by first | exact Kd.S_nil _ _ _ _ _ | exact Kd.N_nil _ _ _ _ _ | exact Kd.V_nil _ _ _ _ _ | exact Kd.Q_nil _ _ _ _ _ | exact Kd.R_nil _ _ _ _ _, bl1_ HB.out GE235.out⟩


theorem up_rounds {α : Type} {f : Nat → Option α} (hm : ∀ k, LeO (f k) (f (k + 1))) {k k' : Nat} (h : k ≤ k') {r : α} (hr : f k = some r) : f k' = some r := by
  induction k' with
  | zero => obtain rfl : k = 0 := by omega
            exact hr
  | succ n ih =>
    by_cases e : k = n + 1
    · subst e; exact hr
    · exact hm n r (ih (by omega))
def risingB : List Int → Bool
  | a :: b :: t => decide (a < b) && risingB (b :: t)
  | _ => true
def inB (lo hi : Int) (l : List Int) : Bool := l.all fun x => decide (lo ≤ x) && decide (x ≤ hi)
theorem isRising_l0 (l : List Int) (hL : l.length ≤ 4000000) : ∀ (d k i : Nat), l.length - i = d → 1 ≤ i → i ≤ l.length → d < k → impl_isRising.l0 k l (i : Int) = some (risingB (l.drop (i - 1))) := by
  intro d
  induction d with
  | zero =>
    intro k i h1 h2 h3 h4
    obtain ⟨k, rfl⟩ : ∃ m, k = m + 1 := ⟨k - 1, by omega⟩
    simp only [impl_isRising.l0]
    rw [if_neg (by omega), List.drop_eq_getElem_cons (by omega), List.drop_of_length_le (by omega)]
    rfl
  | succ d ih =>
    intro k i h1 h2 h3 h4
    obtain ⟨k, rfl⟩ : ∃ m, k = m + 1 := ⟨k - 1, by omega⟩
    have e1 : wrap64 ((i : Int) - 1) = ((i - 1 : Nat) : Int) := by unfold wrap64; omega
    have e2 : wrap64 ((i : Int) + 1) = ((i + 1 : Nat) : Int) := by unfold wrap64; omega
    simp only [impl_isRising.l0]
    rw [if_pos (by omega), if_pos (by omega), e1, if_pos (by omega), if_pos (by omega), rd_nat l i (by omega), rd_nat l (i - 1) (by omega), e2, ih k (i + 1) (by omega) (by omega) (by omega) (by omega),
      List.drop_eq_getElem_cons (show i - 1 < l.length by omega), show i - 1 + 1 = i by omega, show i + 1 - 1 = i by omega, List.drop_eq_getElem_cons (show i < l.length by omega)]
    by_cases hlt : l[i] ≤ l[i - 1]
    · rw [if_pos hlt]
      simp only [risingB]
      rw [decide_eq_false (by omega)]
      rfl
    · rw [if_neg hlt]
      simp only [risingB]
      rw [decide_eq_true (by omega)]
      rfl
theorem isRising_f (l : List Int) (hL : l.length ≤ 4000000) (k : Nat) (hk : l.length + 1 < k) : impl_isRising.f k l = some (risingB l) := by
  unfold impl_isRising.f
  by_cases h0 : l.length = 0
  · have : l = [] := List.length_eq_zero_iff.1 h0
    subst this
    obtain ⟨k, rfl⟩ : ∃ m, k = m + 1 := ⟨k - 1, by omega⟩
    simp only [impl_isRising.l0]
    rw [if_neg (by simp)]
    rfl
  · exact isRising_l0 l hL (l.length - 1) k 1 rfl (by omega) (by omega) (by omega)
theorem fiRises_l0 (l : List Int) (hL : l.length ≤ 4000000) : ∀ (d k i : Nat), l.length - i = d → 1 ≤ i → i ≤ l.length → d < k → spec_fiRises.l0 k l (i : Int) = some (risingB (l.drop (i - 1))) := by
  intro d
  induction d with
  | zero =>
    intro k i h1 h2 h3 h4
    obtain ⟨k, rfl⟩ : ∃ m, k = m + 1 := ⟨k - 1, by omega⟩
    simp only [spec_fiRises.l0]
    rw [if_neg (by omega), List.drop_eq_getElem_cons (by omega), List.drop_of_length_le (by omega)]
    rfl
  | succ d ih =>
    intro k i h1 h2 h3 h4
    obtain ⟨k, rfl⟩ : ∃ m, k = m + 1 := ⟨k - 1, by omega⟩
    have e1 : wrap64 ((i : Int) - 1) = ((i - 1 : Nat) : Int) := by unfold wrap64; omega
    have e2 : wrap64 ((i : Int) + 1) = ((i + 1 : Nat) : Int) := by unfold wrap64; omega
    simp only [spec_fiRises.l0]
    rw [if_pos (by omega), e1, if_pos (by omega), if_pos (by omega), if_pos (by omega), rd_nat l i (by omega), rd_nat l (i - 1) (by omega), e2, ih k (i + 1) (by omega) (by omega) (by omega) (by omega),
      List.drop_eq_getElem_cons (show i - 1 < l.length by omega), show i - 1 + 1 = i by omega, show i + 1 - 1 = i by omega, List.drop_eq_getElem_cons (show i < l.length by omega)]
    by_cases hlt : l[i - 1] ≥ l[i]
    · rw [if_pos hlt]
      simp only [risingB]
      rw [decide_eq_false (by omega)]
      rfl
    · rw [if_neg hlt]
      simp only [risingB]
      rw [decide_eq_true (by omega)]
      rfl
theorem l1All_l0 (l : List Int) (lo hi : Int) (hL : l.length ≤ 4000000) : ∀ (d k i : Nat), l.length - i = d → i ≤ l.length → d < k → spec_l1All.l0 k lo hi l (l.length : Int) (i : Int) = some (inB lo hi (l.drop i)) := by
  intro d
  induction d with
  | zero =>
    intro k i h1 h3 h4
    obtain ⟨k, rfl⟩ : ∃ m, k = m + 1 := ⟨k - 1, by omega⟩
    simp only [spec_l1All.l0]
    rw [if_neg (by omega), List.drop_of_length_le (by omega)]
    rfl
  | succ d ih =>
    intro k i h1 h3 h4
    obtain ⟨k, rfl⟩ : ∃ m, k = m + 1 := ⟨k - 1, by omega⟩
    have e2 : wrap64 ((i : Int) + 1) = ((i + 1 : Nat) : Int) := by unfold wrap64; omega
    have e3 : ∀ x : Int, spec_l1In.f x lo hi = some (decide (lo ≤ x) && decide (x ≤ hi)) := fun x => by
      unfold spec_l1In.f
      by_cases h : lo ≤ x
      · rw [if_pos h, decide_eq_true h]; rfl
      · rw [if_neg (show ¬ x ≥ lo from h), decide_eq_false h]; rfl
    simp only [spec_l1All.l0]
    rw [if_pos (by omega), if_pos (by omega), if_pos (by omega), rd_nat l i (by omega), e3, Option.bind_some, e2, ih k (i + 1) (by omega) (by omega) (by omega), List.drop_eq_getElem_cons (show i < l.length by omega)]
    unfold inB
    rw [List.all_cons]
    cases (decide (lo ≤ l[i]) && decide (l[i] ≤ hi)) <;> rfl
theorem l1All_f (l : List Int) (lo hi : Int) (hL : l.length ≤ 4000000) (k : Nat) (hk : l.length < k) : spec_l1All.f k l lo hi = some (inB lo hi l) := by
  unfold spec_l1All.f
  exact l1All_l0 l lo hi hL l.length k 0 (by omega) (by omega) hk
theorem rising_len (l : List Int) : ∀ (lo hi : Int), risingB l = true → inB lo hi l = true → (l.length : Int) ≤ hi - lo + 1 ∨ l = [] := by
  induction l with
  | nil => intro lo hi _ _; exact .inr rfl
  | cons a t ih =>
    intro lo hi h1 h2
    unfold inB at h2
    rw [List.all_cons, Bool.and_eq_true, Bool.and_eq_true, decide_eq_true_iff, decide_eq_true_iff] at h2
    obtain ⟨⟨h3, h4⟩, h5⟩ := h2
    left
    cases t with
    | nil => simp; omega
    | cons b t =>
      simp only [risingB, Bool.and_eq_true, decide_eq_true_iff] at h1
      have h6 : inB (a + 1) hi (b :: t) = true := by
        have hr : ∀ (t : List Int) (a b : Int), a < b → risingB (b :: t) = true → ∀ x ∈ b :: t, a < x := by
          intro t
          induction t with
          | nil => intro a b hab _ x hx; simp at hx; omega
          | cons c t ih2 =>
            intro a b hab hr x hx
            simp only [risingB, Bool.and_eq_true, decide_eq_true_iff] at hr
            rcases List.mem_cons.1 hx with rfl | hx
            · exact hab
            · have := ih2 b c hr.1 hr.2 x hx; omega
        unfold inB
        rw [List.all_eq_true] at h5 ⊢
        intro x hx
        have h7 := h5 x hx
        have h8 := hr t a b h1.1 h1.2 x hx
        simp only [Bool.and_eq_true, decide_eq_true_iff] at h7 ⊢
        omega
      rcases ih (a + 1) hi h1.2 h6 with h | h
      · simp at h ⊢; omega
      · cases h
def figB (w h : Int) (a u : List Int) : Bool :=
  (decide (1 ≤ w) && decide (w ≤ 4) && decide (1 ≤ h) && decide (h ≤ 4)) && (risingB a && (risingB u && (inB 0 (w * (h + 1) - 1) a && inB 0 (h * (w + 1) - 1) u)))
theorem within_f (n lo hi : Int) : impl_within.f n lo hi = some (decide (lo ≤ n) && decide (n ≤ hi)) := by
  unfold impl_within.f
  by_cases h : lo ≤ n
  · rw [if_pos h, decide_eq_true h]; rfl
  · rw [if_neg h, decide_eq_false h]; rfl
theorem l1In_f (n lo hi : Int) : spec_l1In.f n lo hi = some (decide (lo ≤ n) && decide (n ≤ hi)) := by
  unfold spec_l1In.f
  by_cases h : lo ≤ n
  · rw [if_pos h, decide_eq_true h]; rfl
  · rw [if_neg (show ¬ n ≥ lo from h), decide_eq_false h]; rfl
theorem isGrid_f (w h : Int) : impl_isGrid.f w h = some (decide (1 ≤ w) && decide (w ≤ 4) && decide (1 ≤ h) && decide (h ≤ 4)) := by
  unfold impl_isGrid.f
  rw [within_f, within_f, Option.bind_some, Option.bind_some]
  cases (decide (1 ≤ w) && decide (w ≤ 4)) <;> simp
theorem fiGrid_f (w h : Int) : spec_fiGrid.f w h = some (decide (1 ≤ w) && decide (w ≤ 4) && decide (1 ≤ h) && decide (h ≤ 4)) := by
  unfold spec_fiGrid.f
  rw [l1In_f, l1In_f, Option.bind_some, Option.bind_some]
  cases (decide (1 ≤ w) && decide (w ≤ 4)) <;> simp
theorem grid_bounds {w h : Int} (hg : (decide (1 ≤ w) && decide (w ≤ 4) && decide (1 ≤ h) && decide (h ≤ 4)) = true) : 1 ≤ w ∧ w ≤ 4 ∧ 1 ≤ h ∧ h ≤ 4 := by
  simp only [Bool.and_eq_true, decide_eq_true_iff] at hg; omega
theorem area_bounds {w h : Int} (h1 : 1 ≤ w) (h2 : w ≤ 4) (h3 : 1 ≤ h) (h4 : h ≤ 4) : 2 ≤ w * (h + 1) ∧ w * (h + 1) ≤ 20 ∧ 2 ≤ h * (w + 1) ∧ h * (w + 1) ≤ 20 := by
  have : w = 1 ∨ w = 2 ∨ w = 3 ∨ w = 4 := by omega
  rcases this with rfl | rfl | rfl | rfl <;> omega
theorem IsFigure_f (w h : Int) (a u : List Int) (ha : a.length ≤ 1000000) (hu : u.length ≤ 1000000) (k : Nat) (hk : 1000010 < k) : impl_IsFigure.f k w h a u = some (figB w h a u) := by
  unfold impl_IsFigure.f figB
  rw [isGrid_f, Option.bind_some]
  by_cases hg : (decide (1 ≤ w) && decide (w ≤ 4) && decide (1 ≤ h) && decide (h ≤ 4)) = true
  · rw [if_pos hg, hg, isRising_f a (by omega) k (by omega), isRising_f u (by omega) k (by omega), Option.bind_some]
    obtain ⟨b1, b2, b3, b4⟩ := grid_bounds hg
    obtain ⟨c1, c2, c3, c4⟩ := area_bounds b1 b2 b3 b4
    have e1 : wrap64 (h + 1) = h + 1 := by unfold wrap64; omega
    have e2 : wrap64 (w + 1) = w + 1 := by unfold wrap64; omega
    have e3 : wrap64 (w * (h + 1)) = w * (h + 1) := by unfold wrap64; omega
    have e4 : wrap64 (h * (w + 1)) = h * (w + 1) := by unfold wrap64; omega
    have e5 : wrap64 (w * (h + 1) - 1) = w * (h + 1) - 1 := by unfold wrap64; omega
    have e6 : wrap64 (h * (w + 1) - 1) = h * (w + 1) - 1 := by unfold wrap64; omega
    unfold impl_Figure_grid.f impl_grid_levels.f impl_grid_uprights.f impl_areWithin.f
    simp only [Option.bind_some, e1, e2, e3, e4, e5, e6]
    have key : ∀ A B C D : Bool, (if A = true then (if B = true then (if C = true then some D else some false) else some false) else some false) = some (true && (A && (B && (C && D)))) := by decide
    exact key _ _ _ _
  · rw [if_neg hg, Bool.eq_false_iff.mpr hg]
    rfl
theorem fiRises_f (l : List Int) (m : Int) (hm0 : 0 ≤ m) (hm : m ≤ 100) (hl : l.length ≤ 1000000) (k : Nat) (hk : 1000010 < k) : spec_fiRises.f k l m = some (risingB l && inB 0 m l) := by
  unfold spec_fiRises.f
  have e : wrap64 (m + 1) = m + 1 := by unfold wrap64; omega
  have hj : ∀ b : Bool, spec_fiRises.j0 k l b = some (!b && risingB l) := fun b => by
    obtain ⟨k, rfl⟩ : ∃ q, k = q + 1 := ⟨k - 1, by omega⟩
    simp only [spec_fiRises.j0]
    cases b with
    | true => rfl
    | false =>
      rw [if_neg (by simp)]
      by_cases h0 : l.length = 0
      · have : l = [] := List.length_eq_zero_iff.1 h0
        subst this
        obtain ⟨k, rfl⟩ : ∃ q, k = q + 1 := ⟨k - 1, by omega⟩
        simp only [spec_fiRises.l0]
        rw [if_neg (by simp)]
        rfl
      · rw [show (1 : Int) = ((1 : Nat) : Int) from rfl, fiRises_l0 l (by omega) (l.length - 1) k 1 rfl (by omega) (by omega) (by omega)]
        rfl
  rw [e, hj, l1All_f l 0 m (by omega) k (by omega), Option.bind_some, hj]
  by_cases hgt : (l.length : Int) > m + 1
  · rw [if_pos hgt]
    cases h1 : risingB l with
    | false => rfl
    | true =>
      cases h2 : inB 0 m l with
      | false => rfl
      | true =>
        rcases rising_len l 0 m h1 h2 with h | h
        · omega
        · subst h; simp at hgt; omega
  · rw [if_neg hgt, Bool.not_not, Bool.and_comm]
theorem fiGood_f (w h : Int) (a u : List Int) (ha : a.length ≤ 1000000) (hu : u.length ≤ 1000000) (k : Nat) (hk : 1000010 < k) : spec_fiGood.f k w h a u = some (figB w h a u) := by
  unfold spec_fiGood.f figB
  rw [fiGrid_f, Option.bind_some]
  by_cases hg : (decide (1 ≤ w) && decide (w ≤ 4) && decide (1 ≤ h) && decide (h ≤ 4)) = true
  · rw [if_pos hg, hg]
    obtain ⟨b1, b2, b3, b4⟩ := grid_bounds hg
    obtain ⟨c1, c2, c3, c4⟩ := area_bounds b1 b2 b3 b4
    have e1 : wrap64 (h + 1) = h + 1 := by unfold wrap64; omega
    have e2 : wrap64 (w + 1) = w + 1 := by unfold wrap64; omega
    have e3 : wrap64 (w * (h + 1)) = w * (h + 1) := by unfold wrap64; omega
    have e4 : wrap64 ((w + 1) * h) = h * (w + 1) := by rw [Int.mul_comm]; unfold wrap64; omega
    have e5 : wrap64 (w * (h + 1) - 1) = w * (h + 1) - 1 := by unfold wrap64; omega
    have e6 : wrap64 (h * (w + 1) - 1) = h * (w + 1) - 1 := by unfold wrap64; omega
    rw [e1, e2, e3, e4, e5, e6, fiRises_f a _ (by omega) (by omega) ha k hk, fiRises_f u _ (by omega) (by omega) hu k hk, Option.bind_some, Option.bind_some]
    cases risingB a <;> cases risingB u <;> simp
    cases inB 0 (w * (h + 1) - 1) a <;> simp
  · rw [if_neg hg, Bool.eq_false_iff.mpr hg]
    rfl


theorem u64_small (n : Int) (h0 : 0 ≤ n) (h1 : n < 2 ^ 60) : IntKind.u64.wrap n = n := by
  have : IntKind.u64.wrap n = n % 18446744073709551616 := by simp [IntKind.wrap, IntKind.bits, IntKind.signed]
  rw [this]; omega
theorem i64_small (n : Int) (h0 : 0 ≤ n) (h1 : n < 2 ^ 60) : IntKind.i64.wrap n = n := by rw [IntKind.wrap_i64]; omega
theorem or_u64 (a b : Nat) (ha : a < 2 ^ 60) (hb : b < 2 ^ 60) : Go.bits .or .u64 (a : Int) (b : Int) = ((a ||| b : Nat) : Int) := (bits_nat .u64 60 (by decide) u64_small a b ha hb).2
theorem or_i64 (a b : Nat) (ha : a < 2 ^ 60) (hb : b < 2 ^ 60) : Go.bits .or .i64 (a : Int) (b : Int) = ((a ||| b : Nat) : Int) := (bits_nat .i64 60 (by decide) i64_small a b ha hb).2
theorem and_i64 (a b : Nat) (ha : a < 2 ^ 60) (hb : b < 2 ^ 60) : Go.bits .and .i64 (a : Int) (b : Int) = ((a &&& b : Nat) : Int) := (bits_nat .i64 60 (by decide) i64_small a b ha hb).1
theorem pow_lt60 {n : Nat} (h : n < 60) : 2 ^ n < 2 ^ 60 := Nat.pow_lt_pow_right (by decide) h
theorem shl_u64 (n : Nat) (h : n < 60) : shl .u64 1 (n : Int) = ((2 ^ n : Nat) : Int) := by
  unfold shl
  rw [Int.toNat_natCast, show min n IntKind.u64.bits = n from Nat.min_eq_left (by show n ≤ 64; omega), Int.one_mul]
  have h2 := pow_lt60 h
  rw [u64_small _ (by exact_mod_cast Nat.zero_le _) (by exact_mod_cast h2)]
  norm_cast
theorem shl_i64 (n : Nat) (h : n < 60) : shl .i64 1 (n : Int) = ((2 ^ n : Nat) : Int) := by
  unfold shl
  rw [Int.toNat_natCast, show min n IntKind.i64.bits = n from Nat.min_eq_left (by show n ≤ 64; omega), Int.one_mul]
  have h2 := pow_lt60 h
  rw [i64_small _ (by exact_mod_cast Nat.zero_le _) (by exact_mod_cast h2)]
  norm_cast
def bitsFrom (s : Nat) (l : List Int) (m : Nat) : Nat := l.foldl (fun m k => m ||| 2 ^ (s + k.toNat)) m
theorem bitsFrom_lt (s : Nat) (l : List Int) : ∀ m, m < 2 ^ 60 → (∀ k ∈ l, s + k.toNat < 60) → bitsFrom s l m < 2 ^ 60 := by
  induction l with
  | nil => intro m hm _; exact hm
  | cons a t ih =>
    intro m hm h
    exact ih _ (Nat.or_lt_two_pow hm (pow_lt60 (h a (by simp)))) (fun k hk => h k (by simp [hk]))
theorem inB_mem {lo hi : Int} {l : List Int} (h : inB lo hi l = true) (x : Int) (hx : x ∈ l) : lo ≤ x ∧ x ≤ hi := by
  unfold inB at h
  rw [List.all_eq_true] at h
  have := h x hx
  simpa using this
def figMask (w h : Int) (a u : List Int) : Nat := bitsFrom (w * (h + 1)).toNat u (bitsFrom 0 a 0)
theorem figMask_lt {w h : Int} {a u : List Int} (hf : figB w h a u = true) : figMask w h a u < 2 ^ 60 := by
  unfold figB at hf
  simp only [Bool.and_eq_true] at hf
  obtain ⟨hg, -, -, hi1, hi2⟩ := hf
  obtain ⟨b1, b2, b3, b4⟩ := grid_bounds (by simp only [Bool.and_eq_true]; exact hg)
  obtain ⟨c1, c2, c3, c4⟩ := area_bounds b1 b2 b3 b4
  refine bitsFrom_lt _ _ _ (bitsFrom_lt _ _ _ (by decide) (fun k hk => ?_)) (fun k hk => ?_)
  · have := inB_mem hi1 k hk; omega
  · have := inB_mem hi2 k hk; omega
theorem set_l1 (w h : Int) (a u : List Int) (hL : u.length ≤ 4000000) (hw : wrap64 (w * wrap64 (h + 1)) = w * (h + 1)) (h0 : 0 ≤ w * (h + 1)) (h1 : w * (h + 1) ≤ 20) (hu : ∀ k ∈ u, 0 ≤ k ∧ k ≤ 20) : ∀ (d k i : Nat) (m : Nat), u.length - i = d → i ≤ u.length → d < k → m < 2 ^ 60 →
    impl_Figure_set.l1 k (m : Int) u (u.length : Int) (i : Int) w h a u = some ((bitsFrom (w * (h + 1)).toNat (u.drop i) m : Nat) : Int) := by
  intro d
  induction d with
  | zero =>
    intro k i m h2 h3 h4 h5
    obtain ⟨k, rfl⟩ : ∃ q, k = q + 1 := ⟨k - 1, by omega⟩
    simp only [impl_Figure_set.l1]
    rw [if_neg (by omega), List.drop_of_length_le (by omega)]
    rfl
  | succ d ih =>
    intro k i m h2 h3 h4 h5
    obtain ⟨k, rfl⟩ : ∃ q, k = q + 1 := ⟨k - 1, by omega⟩
    have hi : i < u.length := by omega
    have hk := hu u[i] (List.getElem_mem hi)
    have e2 : wrap64 ((i : Int) + 1) = ((i + 1 : Nat) : Int) := by unfold wrap64; omega
    have e3 : wrap64 (w * (h + 1) + u[i]) = (((w * (h + 1)).toNat + u[i].toNat : Nat) : Int) := by unfold wrap64; omega
    have hlt : (w * (h + 1)).toNat + u[i].toNat < 60 := by omega
    simp only [impl_Figure_set.l1]
    unfold impl_Figure_grid.f impl_grid_levels.f
    rw [if_pos (by omega), if_pos (by omega), if_pos (by omega), rd_nat u i hi, Option.bind_some, Option.bind_some, hw, e3, if_pos (by omega), shl_u64 _ hlt, or_u64 _ _ h5 (pow_lt60 hlt), e2,
      ih k (i + 1) _ (by omega) (by omega) (by omega) (Nat.or_lt_two_pow h5 (pow_lt60 hlt)), List.drop_eq_getElem_cons hi]
    rfl
theorem set_l0 (w h : Int) (a u : List Int) (hL : a.length ≤ 4000000) (hLu : u.length ≤ 4000000) (hw : wrap64 (w * wrap64 (h + 1)) = w * (h + 1)) (h0 : 0 ≤ w * (h + 1)) (h1 : w * (h + 1) ≤ 20) (ha : ∀ k ∈ a, 0 ≤ k ∧ k ≤ 20) (hu : ∀ k ∈ u, 0 ≤ k ∧ k ≤ 20) : ∀ (d k i : Nat) (m : Nat), a.length - i = d → i ≤ a.length → d + u.length + 2 < k → m < 2 ^ 60 →
    impl_Figure_set.l0 k (m : Int) a (a.length : Int) (i : Int) w h a u = some ((bitsFrom (w * (h + 1)).toNat u (bitsFrom 0 (a.drop i) m) : Nat) : Int) := by
  intro d
  induction d with
  | zero =>
    intro k i m h2 h3 h4 h5
    obtain ⟨k, rfl⟩ : ∃ q, k = q + 1 := ⟨k - 1, by omega⟩
    simp only [impl_Figure_set.l0]
    rw [if_neg (by omega), List.drop_of_length_le (by omega)]
    exact set_l1 w h a u hLu hw h0 h1 hu u.length k 0 m (by omega) (by omega) (by omega) h5
  | succ d ih =>
    intro k i m h2 h3 h4 h5
    obtain ⟨k, rfl⟩ : ∃ q, k = q + 1 := ⟨k - 1, by omega⟩
    have hi : i < a.length := by omega
    have hk := ha a[i] (List.getElem_mem hi)
    have e2 : wrap64 ((i : Int) + 1) = ((i + 1 : Nat) : Int) := by unfold wrap64; omega
    have c1 : (i : Int) < (a.length : Int) := Int.ofNat_lt.2 hi
    have c2 : (0 : Int) ≤ (i : Int) := Int.natCast_nonneg _
    have hr := rd_nat a i hi
    have hd := List.drop_eq_getElem_cons hi
    have n1 : a.length - (i + 1) = d := by clear hk hr hd c1 c2 ih h5 hw h0 h1 hu ha; omega
    have n2 : i + 1 ≤ a.length := hi
    have n3 : d + u.length + 2 < k := by clear hk hr hd c1 c2 ih h5 hw h0 h1 hu ha; omega
    have hih := fun m hm => ih k (i + 1) m n1 n2 n3 hm
    generalize a[i] = x at hk hr hd
    obtain ⟨hk1, hk2⟩ := hk
    obtain ⟨y, rfl⟩ : ∃ y : Nat, x = (y : Int) := ⟨x.toNat, (Int.toNat_of_nonneg hk1).symm⟩
    have hlt : y < 60 := by clear hr hd c1 c2 ih h5 hw h0 h1 hu ha hih; omega
    simp only [impl_Figure_set.l0]
    rw [if_pos c1, if_pos c2, if_pos c1, hr, if_pos hk1, shl_u64 _ hlt, or_u64 _ _ h5 (pow_lt60 hlt), e2, hih _ (Nat.or_lt_two_pow h5 (pow_lt60 hlt)), hd]
    unfold bitsFrom
    rw [List.foldl_cons, Nat.zero_add, Int.toNat_natCast]
theorem set_f {w h : Int} {a u : List Int} (hf : figB w h a u = true) (ha : a.length ≤ 1000000) (hu : u.length ≤ 1000000) (k : Nat) (hk : 2000010 < k) : impl_Figure_set.f k w h a u = some ((figMask w h a u : Nat) : Int) := by
  unfold figB at hf
  simp only [Bool.and_eq_true] at hf
  obtain ⟨hg, -, -, hi1, hi2⟩ := hf
  obtain ⟨b1, b2, b3, b4⟩ := grid_bounds (by simp only [Bool.and_eq_true]; exact hg)
  obtain ⟨c1, c2, c3, c4⟩ := area_bounds b1 b2 b3 b4
  have e1 : wrap64 (h + 1) = h + 1 := by unfold wrap64; omega
  have e3 : wrap64 (w * (h + 1)) = w * (h + 1) := by unfold wrap64; omega
  unfold impl_Figure_set.f figMask
  have q := set_l0 w h a u (by omega) (by omega) (by rw [e1, e3]) (by omega) (by omega) (fun k hk => by have := inB_mem hi1 k hk; omega) (fun k hk => by have := inB_mem hi2 k hk; omega) a.length k 0 0 (by omega) (by omega) (by clear hi1 hi2; omega) (by decide)
  rw [List.drop_zero] at q
  exact q


def diffN (s g : Nat) : Nat := s ^^^ (s &&& g)
theorem diffN_test (s g i : Nat) : (diffN s g).testBit i = (s.testBit i && !g.testBit i) := by
  unfold diffN; rw [Nat.testBit_xor, Nat.testBit_and]; cases s.testBit i <;> cases g.testBit i <;> rfl
theorem diffN_lt {s : Nat} (g : Nat) {n : Nat} (h : s < 2 ^ n) : diffN s g < 2 ^ n := Nat.xor_lt_two_pow h (Nat.lt_of_le_of_lt Nat.and_le_left h)
theorem andNot_u64 (s g : Nat) (hs : s < 2 ^ 60) (hg : g < 2 ^ 60) : bits .andNot .u64 (s : Int) (g : Int) = ((diffN s g : Nat) : Int) := by
  have h1 : (BitVec.ofInt 64 (s : Int)).toNat = s := by
    rw [BitVec.ofInt_natCast, BitVec.toNat_ofNat]; exact Nat.mod_eq_of_lt (by omega)
  have h2 : (BitVec.ofInt 64 (g : Int)).toNat = g := by
    rw [BitVec.ofInt_natCast, BitVec.toNat_ofNat]; exact Nat.mod_eq_of_lt (by omega)
  have h3 : s &&& (2 ^ 64 - (g + 1)) = diffN s g := by
    apply Nat.eq_of_testBit_eq
    intro i
    rw [Nat.testBit_and, Nat.testBit_two_pow_sub_succ (by omega), diffN_test]
    rcases Nat.lt_or_ge i 64 with h | h
    · simp [h]
    · rw [Nat.testBit_lt_two_pow (Nat.lt_of_lt_of_le hs (Nat.pow_le_pow_right (by omega) (by omega)))]; simp
  have hd := diffN_lt g hs
  show IntKind.u64.wrap ((BitVec.ofInt 64 (s : Int) &&& ~~~ BitVec.ofInt 64 (g : Int)).toNat : Int) = _
  rw [BitVec.toNat_and, BitVec.toNat_not, h1, h2, show 2 ^ 64 - 1 - g = 2 ^ 64 - (g + 1) by omega, h3]
  exact u64_small _ (Int.natCast_nonneg _) (by exact_mod_cast hd)

theorem sqBit_f (w h : Int) (up : Bool) (n : Nat) (hw : wrap64 (w * wrap64 (h + 1)) = w * (h + 1)) (h0 : 0 ≤ w * (h + 1)) (h1 : w * (h + 1) ≤ 20) (hn : n ≤ 20) : spec_sqBit.f w h up (n : Int) = some ((2 ^ ((if up then (w * (h + 1)).toNat else 0) + n) : Nat) : Int) := by
 unfold spec_sqBit.f
 cases up with
 | false =>
  rw [if_neg (by simp), if_pos (by omega), shl_i64 n (by omega)]
  simp
 | true =>
  have e3 : wrap64 (w * (h + 1) + (n : Int)) = (((w * (h + 1)).toNat + n : Nat) : Int) := by unfold wrap64; omega
  rw [if_pos rfl, hw, e3, if_pos (by omega), shl_i64 _ (by omega)]
  rfl
theorem sqMask_l1 (w h : Int) (a u : List Int) (hL : u.length ≤ 4000000) (hw : wrap64 (w * wrap64 (h + 1)) = w * (h + 1)) (h0 : 0 ≤ w * (h + 1)) (h1 : w * (h + 1) ≤ 20) (hu : ∀ k ∈ u, 0 ≤ k ∧ k ≤ 20) : ∀ (d k i : Nat) (m : Nat), u.length - i = d → i ≤ u.length → d < k → m < 2 ^ 60 →
  spec_sqMask.l1 k (m : Int) u (u.length : Int) (i : Int) w h a u = some ((bitsFrom (w * (h + 1)).toNat (u.drop i) m : Nat) : Int) := by
 intro d
 induction d with
 | zero =>
  intro k i m h2 h3 h4 h5
  obtain ⟨k, rfl⟩ : ∃ q, k = q + 1 := ⟨k - 1, by omega⟩
  simp only [spec_sqMask.l1]
  rw [if_neg (by omega), List.drop_of_length_le (by omega)]
  rfl
 | succ d ih =>
  intro k i m h2 h3 h4 h5
  obtain ⟨k, rfl⟩ : ∃ q, k = q + 1 := ⟨k - 1, by omega⟩
  have hi : i < u.length := by omega
  have hk := hu u[i] (List.getElem_mem hi)
  have e2 : wrap64 ((i : Int) + 1) = ((i + 1 : Nat) : Int) := by unfold wrap64; omega
  have hr := rd_nat u i hi
  have hd := List.drop_eq_getElem_cons hi
  have c1 : (i : Int) < (u.length : Int) := Int.ofNat_lt.2 hi
  have c2 : (0 : Int) ≤ (i : Int) := Int.natCast_nonneg _
  have n1 : u.length - (i + 1) = d := by clear hk hr hd c1 c2 ih h5 hw h0 h1 hu; omega
  have n3 : d < k := by clear hk hr hd c1 c2 ih h5 hw h0 h1 hu; omega
  have hih := fun m hm => ih k (i + 1) m n1 hi n3 hm
  generalize u[i] = x at hk hr hd
  obtain ⟨y, rfl⟩ : ∃ y : Nat, x = (y : Int) := ⟨x.toNat, (Int.toNat_of_nonneg hk.1).symm⟩
  have hy20 : y ≤ 20 := by have := hk.2; clear hr hd c1 c2 ih h5 hw h0 h1 hu hih; omega
  have hlt : (w * (h + 1)).toNat + y < 60 := by clear hr hd c1 c2 ih h5 hw hu hih hk; omega
  simp only [spec_sqMask.l1]
  rw [if_pos c1, if_pos c2, if_pos c1, hr, sqBit_f w h true y hw h0 h1 hy20, Option.bind_some, if_pos rfl, or_i64 _ _ h5 (pow_lt60 hlt), e2, hih _ (Nat.or_lt_two_pow h5 (pow_lt60 hlt)), hd]
  unfold bitsFrom
  rw [List.foldl_cons, Int.toNat_natCast]
theorem sqMask_l0 (w h : Int) (a u : List Int) (hL : a.length ≤ 4000000) (hLu : u.length ≤ 4000000) (hw : wrap64 (w * wrap64 (h + 1)) = w * (h + 1)) (h0 : 0 ≤ w * (h + 1)) (h1 : w * (h + 1) ≤ 20) (ha : ∀ k ∈ a, 0 ≤ k ∧ k ≤ 20) (hu : ∀ k ∈ u, 0 ≤ k ∧ k ≤ 20) : ∀ (d k i : Nat) (m : Nat), a.length - i = d → i ≤ a.length → d + u.length + 2 < k → m < 2 ^ 60 →
  spec_sqMask.l0 k (m : Int) a (a.length : Int) (i : Int) w h a u = some ((bitsFrom (w * (h + 1)).toNat u (bitsFrom 0 (a.drop i) m) : Nat) : Int) := by
 intro d
 induction d with
 | zero =>
  intro k i m h2 h3 h4 h5
  obtain ⟨k, rfl⟩ : ∃ q, k = q + 1 := ⟨k - 1, by omega⟩
  simp only [spec_sqMask.l0]
  rw [if_neg (by omega), List.drop_of_length_le (by omega)]
  exact sqMask_l1 w h a u hLu hw h0 h1 hu u.length k 0 m (by omega) (by omega) (by omega) h5
 | succ d ih =>
  intro k i m h2 h3 h4 h5
  obtain ⟨k, rfl⟩ : ∃ q, k = q + 1 := ⟨k - 1, by omega⟩
  have hi : i < a.length := by omega
  have hk := ha a[i] (List.getElem_mem hi)
  have e2 : wrap64 ((i : Int) + 1) = ((i + 1 : Nat) : Int) := by unfold wrap64; omega
  have hr := rd_nat a i hi
  have hd := List.drop_eq_getElem_cons hi
  have c1 : (i : Int) < (a.length : Int) := Int.ofNat_lt.2 hi
  have c2 : (0 : Int) ≤ (i : Int) := Int.natCast_nonneg _
  have n1 : a.length - (i + 1) = d := by clear hk hr hd c1 c2 ih h5 hw h0 h1 hu ha; omega
  have n3 : d + u.length + 2 < k := by clear hk hr hd c1 c2 ih h5 hw h0 h1 hu ha; omega
  have hih := fun m hm => ih k (i + 1) m n1 hi n3 hm
  generalize a[i] = x at hk hr hd
  obtain ⟨y, rfl⟩ : ∃ y : Nat, x = (y : Int) := ⟨x.toNat, (Int.toNat_of_nonneg hk.1).symm⟩
  have hlt : 0 + y < 60 := by have := hk.2; clear hr hd c1 c2 ih h5 hw h0 h1 hu ha hih; omega
  have hy20 : y ≤ 20 := by have := hk.2; clear hr hd c1 c2 ih h5 hw h0 h1 hu ha hih; omega
  simp only [spec_sqMask.l0]
  rw [if_pos c1, if_pos c2, if_pos c1, hr, sqBit_f w h false y hw h0 h1 hy20, Option.bind_some, if_neg (by simp), or_i64 _ _ h5 (pow_lt60 hlt), e2, hih _ (Nat.or_lt_two_pow h5 (pow_lt60 hlt)), hd]
  unfold bitsFrom
  rw [List.foldl_cons, Int.toNat_natCast]
theorem sqMask_f {w h : Int} {a u : List Int} (hf : figB w h a u = true) (ha : a.length ≤ 1000000) (hu : u.length ≤ 1000000) (k : Nat) (hk : 2000010 < k) : spec_sqMask.f k w h a u = some ((figMask w h a u : Nat) : Int) := by
 unfold figB at hf
 simp only [Bool.and_eq_true] at hf
 obtain ⟨hg, -, -, hi1, hi2⟩ := hf
 obtain ⟨b1, b2, b3, b4⟩ := grid_bounds (by simp only [Bool.and_eq_true]; exact hg)
 obtain ⟨c1, c2, c3, c4⟩ := area_bounds b1 b2 b3 b4
 have e1 : wrap64 (h + 1) = h + 1 := by unfold wrap64; omega
 have e3 : wrap64 (w * (h + 1)) = w * (h + 1) := by unfold wrap64; omega
 unfold spec_sqMask.f figMask
 have q := sqMask_l0 w h a u (by omega) (by omega) (by rw [e1, e3]) (by omega) (by omega) (fun k hk => by have := inB_mem hi1 k hk; omega) (fun k hk => by have := inB_mem hi2 k hk; omega) a.length k 0 0 (by omega) (by omega) (by clear hi1 hi2; omega) (by decide)
 rw [List.drop_zero] at q
 exact q
def sqsSame (w h : Nat) : Bool :=
 match impl_grid_squares.f 200 (w : Int) (h : Int), spec_sqAll.f 200 (w : Int) (h : Int) with
 | some L, some PL => (L.map (fun q => q.f3) == PL.map (fun q => q.f3)) && L.all (fun q => decide (0 ≤ q.f3) && decide (q.f3 < 2 ^ 60)) && decide (L.length ≤ 30)
 | _, _ => false
theorem sqs_11 : sqsSame 1 1 = true := by decide +kernel
theorem sqs_12 : sqsSame 1 2 = true := by decide +kernel
theorem sqs_13 : sqsSame 1 3 = true := by decide +kernel
theorem sqs_14 : sqsSame 1 4 = true := by decide +kernel
theorem sqs_21 : sqsSame 2 1 = true := by decide +kernel
theorem sqs_22 : sqsSame 2 2 = true := by decide +kernel
theorem sqs_23 : sqsSame 2 3 = true := by decide +kernel
theorem sqs_24 : sqsSame 2 4 = true := by decide +kernel
theorem sqs_31 : sqsSame 3 1 = true := by decide +kernel
theorem sqs_32 : sqsSame 3 2 = true := by decide +kernel
theorem sqs_33 : sqsSame 3 3 = true := by decide +kernel
theorem sqs_34 : sqsSame 3 4 = true := by decide +kernel
theorem sqs_41 : sqsSame 4 1 = true := by decide +kernel
theorem sqs_42 : sqsSame 4 2 = true := by decide +kernel
theorem sqs_43 : sqsSame 4 3 = true := by decide +kernel
theorem sqs_44 : sqsSame 4 4 = true := by decide +kernel
theorem sqs_all (w h : Nat) (h1 : 1 ≤ w) (h2 : w ≤ 4) (h3 : 1 ≤ h) (h4 : h ≤ 4) : sqsSame w h = true := by
 have hw : w = 1 ∨ w = 2 ∨ w = 3 ∨ w = 4 := by omega
 have hh : h = 1 ∨ h = 2 ∨ h = 3 ∨ h = 4 := by omega
 rcases hw with rfl | rfl | rfl | rfl <;> rcases hh with rfl | rfl | rfl | rfl
 ·exact sqs_11
 ·exact sqs_12
 ·exact sqs_13
 ·exact sqs_14
 ·exact sqs_21
 ·exact sqs_22
 ·exact sqs_23
 ·exact sqs_24
 ·exact sqs_31
 ·exact sqs_32
 ·exact sqs_33
 ·exact sqs_34
 ·exact sqs_41
 ·exact sqs_42
 ·exact sqs_43
 ·exact sqs_44
theorem nat_of_list {α : Type} (f : α → Int) : ∀ l : List α, (∀ q ∈ l, 0 ≤ f q ∧ f q < 2 ^ 60) → ∃ E : List Nat, l.map f = E.map (fun n : Nat => (n : Int)) ∧ ∀ e ∈ E, e < 2 ^ 60
 | [], _ => ⟨[], rfl, fun _ h => by cases h⟩
 | x :: l, h => by
  obtain ⟨E, h1, h2⟩ := nat_of_list f l (fun q hq => h q (List.mem_cons_of_mem _ hq))
  obtain ⟨h3, h4⟩ := h x List.mem_cons_self
  refine ⟨(f x).toNat :: E, ?_, fun e he => ?_⟩
  ·rw [List.map_cons, List.map_cons, h1, Int.toNat_of_nonneg h3]
  ·rcases List.mem_cons.1 he with rfl | he
   ·omega
   ·exact h2 e he
theorem squares_f {w h : Int} (h1 : 1 ≤ w) (h2 : w ≤ 4) (h3 : 1 ≤ h) (h4 : h ≤ 4) (k : Nat) (hk : 200 ≤ k) : ∃ (L : List S64) (PL : List S58) (E : List Nat), impl_grid_squares.f k w h = some L ∧ spec_sqAll.f k w h = some PL ∧ L.map (fun q => q.f3) = E.map (fun n : Nat => (n : Int)) ∧ PL.map (fun q => q.f3) = E.map (fun n : Nat => (n : Int)) ∧ (∀ e ∈ E, e < 2 ^ 60) ∧ L.length ≤ 30 := by
 obtain ⟨w, rfl⟩ := Int.eq_ofNat_of_zero_le (show 0 ≤ w by omega)
 obtain ⟨h, rfl⟩ := Int.eq_ofNat_of_zero_le (show 0 ≤ h by omega)
 have hs : sqsSame w h = true := sqs_all w h (by omega) (by omega) (by omega) (by omega)
 unfold sqsSame at hs
 cases hL : impl_grid_squares.f 200 (w : Int) (h : Int) with
 | none => rw [hL] at hs; cases hs
 | some L =>
  cases hP : spec_sqAll.f 200 (w : Int) (h : Int) with
  | none => rw [hL, hP] at hs; cases hs
  | some PL =>
   rw [hL, hP] at hs
   simp only [Bool.and_eq_true, beq_iff_eq, decide_eq_true_eq] at hs
   obtain ⟨⟨e1, e2⟩, e3⟩ := hs
   obtain ⟨E, e4, e5⟩ := nat_of_list (fun q : S64 => q.f3) L (fun q hq => by
    have := List.all_eq_true.1 e2 q hq
    simpa using this)
   exact ⟨L, PL, E, up_rounds (fun k => impl_grid_squares.mono _ _ k) hk hL, up_rounds (fun k => spec_sqAll.mono _ _ k) hk hP, e4, by rw [← e1, e4], e5, e3⟩
def subE (e x : Nat) : Bool := diffN e x == 0
theorem subE_test {e x : Nat} : subE e x = true ↔ ∀ i, e.testBit i = true → x.testBit i = true := by
 unfold subE
 rw [beq_iff_eq]
 constructor
 ·intro h i hi
  have h2 := diffN_test e x i
  rw [h, hi] at h2
  simpa using h2.symm
 ·intro h
  apply Nat.eq_of_testBit_eq
  intro i
  rw [diffN_test, Nat.zero_testBit]
  cases hi : e.testBit i with
  | false => rfl
  | true => rw [h i hi]; rfl
theorem subE_and (e x : Nat) : subE e x = true ↔ x &&& e = e := by
 rw [subE_test]
 constructor
 ·intro h
  apply Nat.eq_of_testBit_eq
  intro i
  rw [Nat.testBit_and]
  cases hi : e.testBit i with
  | false => simp
  | true => rw [h i hi]; rfl
 ·intro h i hi
  have h2 := congrArg (fun n => n.testBit i) h
  simp only [Nat.testBit_and, hi, Bool.and_true] at h2
  exact h2
theorem filter_map {α : Type} (f : α → Int) (p : Int → Bool) (q : Nat → Bool) : ∀ (L : List α) (E : List Nat), L.map f = E.map (fun n : Nat => (n : Int)) → (∀ e ∈ E, p ((e : Nat) : Int) = q e) → (L.filter fun x => p (f x)).map f = (E.filter q).map (fun n : Nat => (n : Int))
 | [], [], _, _ => rfl
 | [], e :: E, h, _ => by cases h
 | x :: L, [], h, _ => by cases h
 | x :: L, e :: E, h, hp => by
  rw [List.map_cons, List.map_cons] at h
  injection h with h1 h2
  have ih := filter_map f p q L E h2 (fun e he => hp e (List.mem_cons_of_mem _ he))
  have h3 : p (f x) = q e := by rw [h1]; exact hp e List.mem_cons_self
  by_cases hq : q e = true
  ·rw [List.filter_cons_of_pos (p := fun x => p (f x)) (h3.trans hq), List.filter_cons_of_pos hq, List.map_cons, List.map_cons, ih, h1]
  ·rw [List.filter_cons_of_neg (p := fun x => p (f x)) (by rw [h3]; exact hq), List.filter_cons_of_neg hq, ih]
theorem of_f {L : List S64} {E : List Nat} (h : L.map (fun q => q.f3) = E.map (fun n : Nat => (n : Int))) (hE : ∀ e ∈ E, e < 2 ^ 60) (hl : L.length ≤ 30) (x : Nat) (hx : x < 2 ^ 60) : ∃ L', impl_of.f L (x : Int) = some L' ∧ L'.map (fun q => q.f3) = (E.filter fun e => subE e x).map (fun n : Nat => (n : Int)) ∧ L' = L.filter (ofP (x : Int)) := by
 refine ⟨L.filter (ofP (x : Int)), ?_, ?_, rfl⟩
 ·unfold impl_of.f
  rw [if_pos (Nat.le_trans hl (by decide))]
 ·have := filter_map (fun q : S64 => q.f3) (fun y => Go.bits .andNot .u64 y (x : Int) == 0) (fun e => subE e x) L E h (fun e he => by
   rw [andNot_u64 _ _ (hE e he) hx]
   unfold subE
   rw [Bool.eq_iff_iff, beq_iff_eq, beq_iff_eq]
   exact ⟨fun h => by exact_mod_cast h, fun h => by rw [h]; rfl⟩)
  exact this


def tellI (q : S64) : List Int := [q.f0, q.f1, q.f2, q.f3]
def tellP (q : S58) : List Int := [q.f0, q.f1, q.f2, q.f3]
def sqsTold (w h : Nat) : Bool :=
 match impl_grid_squares.f 200 (w : Int) (h : Int), spec_sqAll.f 200 (w : Int) (h : Int) with
 | some L, some PL => L.map tellI == PL.map tellP
 | _, _ => false
theorem sqd_11 : sqsTold 1 1 = true := by decide +kernel
theorem sqd_12 : sqsTold 1 2 = true := by decide +kernel
theorem sqd_13 : sqsTold 1 3 = true := by decide +kernel
theorem sqd_14 : sqsTold 1 4 = true := by decide +kernel
theorem sqd_21 : sqsTold 2 1 = true := by decide +kernel
theorem sqd_22 : sqsTold 2 2 = true := by decide +kernel
theorem sqd_23 : sqsTold 2 3 = true := by decide +kernel
theorem sqd_24 : sqsTold 2 4 = true := by decide +kernel
theorem sqd_31 : sqsTold 3 1 = true := by decide +kernel
theorem sqd_32 : sqsTold 3 2 = true := by decide +kernel
theorem sqd_33 : sqsTold 3 3 = true := by decide +kernel
theorem sqd_34 : sqsTold 3 4 = true := by decide +kernel
theorem sqd_41 : sqsTold 4 1 = true := by decide +kernel
theorem sqd_42 : sqsTold 4 2 = true := by decide +kernel
theorem sqd_43 : sqsTold 4 3 = true := by decide +kernel
theorem sqd_44 : sqsTold 4 4 = true := by decide +kernel
theorem sqd_all (w h : Nat) (h1 : 1 ≤ w) (h2 : w ≤ 4) (h3 : 1 ≤ h) (h4 : h ≤ 4) : sqsTold w h = true := by
 have hw : w = 1 ∨ w = 2 ∨ w = 3 ∨ w = 4 := by omega
 have hh : h = 1 ∨ h = 2 ∨ h = 3 ∨ h = 4 := by omega
 rcases hw with rfl | rfl | rfl | rfl <;> rcases hh with rfl | rfl | rfl | rfl
 ·exact sqd_11
 ·exact sqd_12
 ·exact sqd_13
 ·exact sqd_14
 ·exact sqd_21
 ·exact sqd_22
 ·exact sqd_23
 ·exact sqd_24
 ·exact sqd_31
 ·exact sqd_32
 ·exact sqd_33
 ·exact sqd_34
 ·exact sqd_41
 ·exact sqd_42
 ·exact sqd_43
 ·exact sqd_44
theorem told_f {w h : Int} (h1 : 1 ≤ w) (h2 : w ≤ 4) (h3 : 1 ≤ h) (h4 : h ≤ 4) (k : Nat) (hk : 200 ≤ k) {L : List S64} {PL : List S58} (hL : impl_grid_squares.f k w h = some L) (hP : spec_sqAll.f k w h = some PL) : L.map tellI = PL.map tellP := by
 obtain ⟨w, rfl⟩ := Int.eq_ofNat_of_zero_le (show 0 ≤ w by omega)
 obtain ⟨h, rfl⟩ := Int.eq_ofNat_of_zero_le (show 0 ≤ h by omega)
 have hs : sqsTold w h = true := sqd_all w h (by omega) (by omega) (by omega) (by omega)
 unfold sqsTold at hs
 cases hL2 : impl_grid_squares.f 200 (w : Int) (h : Int) with
 | none => rw [hL2] at hs; cases hs
 | some L2 =>
  cases hP2 : spec_sqAll.f 200 (w : Int) (h : Int) with
  | none => rw [hL2, hP2] at hs; cases hs
  | some PL2 =>
   rw [hL2, hP2] at hs
   have e1 := up_rounds (fun k => impl_grid_squares.mono _ _ k) hk hL2
   have e2 := up_rounds (fun k => spec_sqAll.mono _ _ k) hk hP2
   rw [hL] at e1
   rw [hP] at e2
   obtain rfl := Option.some.inj e1
   obtain rfl := Option.some.inj e2
   exact beq_iff_eq.1 hs
theorem filter_told {α β : Type} (f : α → List Int) (g : β → List Int) (p : α → Bool) (q : β → Bool) : ∀ (L : List α) (M : List β), L.map f = M.map g → (∀ a ∈ L, ∀ b ∈ M, f a = g b → p a = q b) → (L.filter p).map f = (M.filter q).map g
 | [], [], _, _ => rfl
 | [], _ :: _, h, _ => by cases h
 | _ :: _, [], h, _ => by cases h
 | a :: L, b :: M, h, hp => by
  rw [List.map_cons, List.map_cons] at h
  injection h with h1 h2
  have ih := filter_told f g p q L M h2 (fun a ha b hb => hp a (List.mem_cons_of_mem _ ha) b (List.mem_cons_of_mem _ hb))
  have h3 := hp a List.mem_cons_self b List.mem_cons_self h1
  by_cases hq : q b = true
  ·rw [List.filter_cons_of_pos (h3.trans hq), List.filter_cons_of_pos hq, List.map_cons, List.map_cons, ih, h1]
  ·rw [List.filter_cons_of_neg (by rw [h3]; exact hq), List.filter_cons_of_neg hq, ih]
def told3 (l : List Int) : List Int := l.take 3
def hasP (x : Int) (q : S58) : Bool := decide (Go.bits .and .i64 x q.f3 = q.f3)
theorem specSq_l0 (x : Int) (L : List S58) (hl : L.length ≤ 30) : ∀ (d k i : Nat) (acc : List (List Int)), L.length - i = d → i ≤ L.length → d < k → acc.length ≤ i →
  spec_SquaresOf.l0 k x acc L (L.length : Int) (i : Int) = some (acc ++ (((L.drop i).filter (hasP x)).map tellP).map told3, true) := by
 intro d
 induction d with
 | zero =>
  intro k i acc h1 h2 h3 h4
  obtain ⟨k, rfl⟩ : ∃ q, k = q + 1 := ⟨k - 1, by omega⟩
  rw [spec_SquaresOf.l0, if_neg (by omega), List.drop_of_length_le (by omega)]
  simp
 | succ d ih =>
  intro k i acc h1 h2 h3 h4
  obtain ⟨k, rfl⟩ : ∃ q, k = q + 1 := ⟨k - 1, by omega⟩
  have hi : i < L.length := by omega
  have hrd : rd_T58 L (i : Int) = L[i] := by unfold rd_T58; rw [Int.toNat_natCast, List.getD_eq_getElem?_getD, List.getElem?_eq_getElem hi]; rfl
  have e1 : wrap64 ((i : Int) + 1) = ((i + 1 : Nat) : Int) := by unfold wrap64; omega
  rw [spec_SquaresOf.l0, if_pos (by omega), if_pos (by omega), if_pos (by omega), hrd, List.drop_eq_getElem_cons hi, e1]
  by_cases hq : Go.bits .and .i64 x L[i].f3 = L[i].f3
  ·have hq2 : hasP x L[i] = true := decide_eq_true hq
   rw [if_pos hq, if_pos (by omega), ih k (i + 1) _ (by omega) (by omega) (by omega) (by rw [List.length_append]; simp; omega), List.filter_cons_of_pos hq2, List.map_cons, List.map_cons, List.append_assoc]
   rfl
  ·have hq2 : ¬ hasP x L[i] = true := fun h => hq (of_decide_eq_true h)
   rw [if_neg hq, ih k (i + 1) _ (by omega) (by omega) (by omega) (by omega), List.filter_cons_of_neg hq2]
theorem implSq_l0 (L : List S64) (hl : L.length ≤ 30) : ∀ (d k i : Nat) (acc : List (List Int)), L.length - i = d → i ≤ L.length → d < k → acc.length ≤ i →
  impl_SquaresOf.l0 k acc L (L.length : Int) (i : Int) = some (acc ++ ((L.drop i).map tellI).map told3, true) := by
 intro d
 induction d with
 | zero =>
  intro k i acc h1 h2 h3 h4
  obtain ⟨k, rfl⟩ : ∃ q, k = q + 1 := ⟨k - 1, by omega⟩
  rw [impl_SquaresOf.l0, if_neg (by omega), List.drop_of_length_le (by omega)]
  simp
 | succ d ih =>
  intro k i acc h1 h2 h3 h4
  obtain ⟨k, rfl⟩ : ∃ q, k = q + 1 := ⟨k - 1, by omega⟩
  have hi : i < L.length := by omega
  have hrd : rd_T64 L (i : Int) = L[i] := by unfold rd_T64; rw [Int.toNat_natCast, List.getD_eq_getElem?_getD, List.getElem?_eq_getElem hi]; rfl
  have e1 : wrap64 ((i : Int) + 1) = ((i + 1 : Nat) : Int) := by unfold wrap64; omega
  rw [impl_SquaresOf.l0, if_pos (by omega), if_pos (by omega), if_pos (by omega), if_pos (by omega), hrd, List.drop_eq_getElem_cons hi, e1, ih k (i + 1) _ (by omega) (by omega) (by omega) (by rw [List.length_append]; simp; omega), List.map_cons, List.map_cons, List.append_assoc]
  rfl
theorem SquaresOf_pure {w h : Int} {a u : List Int} (ha : a.length ≤ 1000000) (hu : u.length ≤ 1000000) : ∃ R r2, spec_SquaresOf.f 4000001 w h a u = some (R, r2) ∧ impl_SquaresOf.f 4000001 w h a u = some (R, r2) ∧ R.length ≤ 30 ∧ ∀ x ∈ R, x.length ≤ 3 := by
 cases hf : figB w h a u with
 | false =>
  refine ⟨[], false, ?_, ?_, by simp, fun x hx => absurd hx List.not_mem_nil⟩
  ·unfold spec_SquaresOf.f
   rw [fiGood_f w h a u ha hu _ (by decide), hf, Option.bind_some, if_neg (by decide)]
  ·unfold impl_SquaresOf.f
   rw [IsFigure_f w h a u ha hu _ (by decide), hf, Option.bind_some, if_neg (by decide)]
 | true =>
  have hg := hf
  unfold figB at hg
  simp only [Bool.and_eq_true] at hg
  obtain ⟨hgg, -⟩ := hg
  obtain ⟨b1, b2, b3, b4⟩ := grid_bounds (by simp only [Bool.and_eq_true]; exact hgg)
  have hM := figMask_lt hf
  obtain ⟨L, PL, E, hL, hPL, hLE, hPE, hE, hl⟩ := squares_f b1 b2 b3 b4 4000001 (by decide)
  have hT := told_f b1 b2 b3 b4 4000001 (by decide) hL hPL
  obtain ⟨L', q1, q2, q3⟩ := of_f hLE hE hl _ hM
  have hlP : PL.length ≤ 30 := by have := congrArg List.length hT; simp only [List.length_map] at this; omega
  have hsm := sqMask_f hf ha hu 4000001 (by decide)
  have hst := set_f hf ha hu 4000001 (by decide)
  have hfil : (L.filter (ofP (figMask w h a u : Int))).map tellI = (PL.filter (hasP (figMask w h a u : Int))).map tellP := filter_told tellI tellP _ _ L PL hT (fun x hx y hy hxy => by
   have hf3 : x.f3 = y.f3 := by
    unfold tellI tellP at hxy
    simp only [List.cons.injEq, and_true] at hxy
    exact hxy.2.2.2
   have hmem : y.f3 ∈ E.map (fun n : Nat => (n : Int)) := by rw [← hPE]; exact List.mem_map.2 ⟨y, hy, rfl⟩
   obtain ⟨e, he, hey⟩ := List.mem_map.1 hmem
   have hlt := hE e he
   unfold ofP hasP
   rw [hf3, ← hey, andNot_u64 _ _ hlt hM, and_i64 _ _ hM hlt, Bool.eq_iff_iff, beq_iff_eq, decide_eq_true_iff]
   have hs := subE_and e (figMask w h a u)
   unfold subE at hs
   rw [beq_iff_eq] at hs
   constructor
   ·intro h2
    have h3 : diffN e (figMask w h a u) = 0 := by exact_mod_cast h2
    exact congrArg (fun n : Nat => (n : Int)) (hs.1 h3)
   ·intro h2
    have h3 : figMask w h a u &&& e = e := by exact_mod_cast h2
    rw [hs.2 h3]
    rfl)
  have hl' : L'.length ≤ 30 := by rw [q3]; exact Nat.le_trans (List.length_filter_le _ _) hl
  refine ⟨(L'.map tellI).map told3, true, ?_, ?_, by rw [List.length_map, List.length_map]; exact hl', fun x hx => ?_⟩
  ·unfold spec_SquaresOf.f
   rw [fiGood_f w h a u ha hu _ (by decide), hf, Option.bind_some, if_pos rfl, hsm, Option.bind_some, hPL, Option.bind_some]
   have q := specSq_l0 (figMask w h a u : Int) PL hlP PL.length 4000001 0 [] (Nat.sub_zero _) (Nat.zero_le _) (Nat.lt_of_le_of_lt hlP (by decide)) (Nat.le_refl _)
   rw [List.drop_zero, List.nil_append, ← hfil, ← q3] at q
   exact q
  ·unfold impl_SquaresOf.f impl_Figure_squares.f impl_Figure_grid.f
   rw [IsFigure_f w h a u ha hu _ (by decide), hf, Option.bind_some, if_pos rfl, Option.bind_some]
   dsimp only
   rw [hL, Option.bind_some, hst, Option.bind_some, q1, Option.bind_some, Option.bind_some]
   have q := implSq_l0 L' hl' L'.length 4000001 0 [] (Nat.sub_zero _) (Nat.zero_le _) (Nat.lt_of_le_of_lt hl' (by decide)) (Nat.le_refl _)
   rw [List.drop_zero, List.nil_append] at q
   exact q
  ·obtain ⟨y, hy, rfl⟩ := List.mem_map.1 hx
   unfold told3
   rw [List.length_take]
   omega

end Go.Proofs.Yteaglkpplgbpaaa.P
namespace Go.Proofs.Yteaglkpplgbpaaa.fnExactSquaresOf
open Go.ChangeShapes Go.WideShapes Go.ChangeAt Go.RowKit Go.Proofs.YteaglkpplgbpaaaW.PrintWords Go.Joins
set_option linter.unusedVariables false
theorem own : ownKnob Try.prog.godebug = none := Closed.own
theorem laidOut : laidOutB Try.prog = true := Closed.laidOut
def IsRow (k : IntKind) (w : World) (a : Option Addr) (len cap : Nat) (zs : List Int) : Prop :=
 (a = none ∧ len = 0 ∧ cap = 0 ∧ zs = []) ∨
 ∃ x, a = some x ∧ len ≤ cap ∧ cap ≤ maxLen ∧ zs.length = cap ∧ (∀ i, i < zs.length → w.cell? (x.add i) = some (.int k (zs.getD i 0))) ∧ ∀ n ∈ zs, (Lit.int k n).wf = true
theorem opened {H : Type} {enc : TypeId × Value → H} {W : World} {m : Nat} {c : Value} {y : DataW H × List MemPlace} (hy : DataW.trod enc Try.prog W 0 (fun _ => true) true m 22 [c] = some y) :
  ∃ a len cap zs, c = .slice a len cap ∧ IsRow .i64 W a len cap zs := by
 rcases open_ints Try.underlying22 Try.underlying3 (by kernel_rfl) hy with ⟨hcs, _⟩ | ⟨x, l, c, zs, hcs, _, hl, hm, hz, _, hcell, hwz⟩
 ·simp at hcs
  exact ⟨none, 0, 0, [], hcs, .inl ⟨rfl, rfl, rfl, rfl⟩⟩
 ·simp at hcs
  exact ⟨some x, l, c, zs, hcs, .inr ⟨_, rfl, hl, hm, by simpa using hz, hcell, hwz⟩⟩
theorem walk (a b : Int) (A2 : Option Addr) (n2 c2 : Nat) (z2 : List Int) (A3 : Option Addr) (n3 c3 : Nat) (z3 : List Int)  (w : World) (w2 : IsRow .i64 w A2 n2 c2 z2) (w3 : IsRow .i64 w A3 n3 c3 z3) (y2 : n2 * 8 ≤ 140737488351232) (y3 : n3 * 8 ≤ 140737488351232) :
  Calls Try.prog 4 #[.agg #[.int .i64 a, .int .i64 b, .slice A2 n2 c2, .slice A3 n3 c3]] w fun e w' => e = .returned (.bool true) ∧ Below w.heap.size w w' := by
 obtain ⟨l2, rfl, hr2, hm2, hw2, hc2⟩ := ReadsInt.ofRowC w2
 obtain ⟨l3, rfl, hr3, hm3, hw3, hc3⟩ := ReadsInt.ofRowC w3
 have k2 := Kd.C_of_reads (d := (0 : Int)) (h1 := fun _ => rfl) hr2
 have k3 := Kd.C_of_reads (d := (0 : Int)) (h1 := fun _ => rfl) hr3
 by_cases hbig : l2.length + l3.length ≤ 1000000
 ·have b2 : l2.length ≤ 1000000 := Nat.le_trans (Nat.le_add_right _ _) hbig
  have b3 : l3.length ≤ 1000000 := Nat.le_trans (Nat.le_add_left _ _) hbig
  obtain ⟨R, r2, hp1, hp2, hp3, hp4⟩ := P.SquaresOf_pure (w := a) (h := b) (a := l2) (u := l3) b2 b3 
  exact P.law_SquaresOf_yes a b A2 c2 l2 A3 c3 l3  4200002 R r2 (fun _ => True) (fun _ _ _ _ => trivial) w k2 hc2 k3 hc3 trivial hbig (by omega) (fun x hx => by have := hp4 x hx; omega) (Nat.lt_succ_self _)
   (fun B2 d2 B3 d3 W hu2 hd2 hu3 hd3 _ => P.spec_SquaresOf.calls 4000001 a b B2 d2 l2 B3 d3 l3  R r2 W hu2 hd2 hu3 hd3 hp1)
   (fun B2 d2 B3 d3 W hu2 hd2 hu3 hd3 _ => P.impl_SquaresOf.calls 4000001 a b B2 d2 l2 B3 d3 l3  R r2 W hu2 hd2 hu3 hd3 hp2)
 ·exact P.law_SquaresOf_no a b A2 c2 l2 A3 c3 l3  w k2 hc2 k3 hc3 (by clear hbig; omega) (by clear hbig; omega) hbig
theorem joined_mk (P : Program) (f : FuncId) (fn : Func) (s : ChangeSpec) (c : OpenClaim) (k0 : (c.wf (OpenSpec.ofChange s)) = true) (k1 : (laidOutB P) = true) (k2 : (mapsRowed P) = true) (k3 : (fn.params.all (P.readableRec ·)) = true) (k4 : (namedTie P c.named s.vars) = true) (k5 : ((c.stops == [])) = true) (k6 : ((P.stops == [])) = true) (k7 : ((c.knobs == [])) = true) (k8 : ((P.stopKnobs == [])) = true) (k9 : ((c.inPlace == P.inPlace f)) = true) (k10 : ((c.unfollowed == P.unfollowed f)) = true) (k11 : ((c.recurses == P.recurses f)) = true) (k12 : ((c.named == P.varsNamed f)) = true) (k13 : ((c.maps == (fn.params.toList ++ s.plain.varTypes P).any (P.mapsRec ·))) = true) (k14 : ((c.ifaces == (fn.params.toList ++ s.plain.varTypes P).any (P.ifacesRec ·))) = true) (k15 : ((c.mapsOut == P.mapsAmong fn.resultTypes.toList)) = true) (k16 : ((c.loops == (fn.params.toList ++ s.plain.varTypes P).any (P.loopsFrom ·))) = true) (k17 : ((c.wideKeys == (fn.params.toList ++ s.plain.varTypes P ++ fn.resultTypes.toList).any (P.wideKeysFrom ·))) = true) (k18 : (s.vars.all (P.varReadable ·)) = true) (k19 : (fn.resultTypes.all (fun t => P.readableRec t && decide (t < P.types.size))) = true) (k20 : ((c.ifacesOut == fn.resultTypes.toList.any (P.ifacesRec ·))) = true) (k21 : ((c.loopsOut == fn.resultTypes.toList.any (P.loopsFrom ·))) = true) (k22 : ((c.plainKeys == P.plainKeys)) = true) (k23 : (c.shortTexts.isNone) = true) (k24 : (P.stopsHeard) = true) (k25 : (P.mayEnter) = true) (k26 : ((c.lifted == P.liftsFinal)) = true) (k27 : ((P.make == some c.make)) = true) (hd : c.domain.isEmpty = true) (k28 : (c.kinds == []) = true) (k29 : ((c.pinned == c.pinnedBy)) = true) (k30 : ((c.veiled == (fn.params.toList ++ s.plain.varTypes P ++ fn.resultTypes.toList).any (P.veiledRec ·))) = true) (k31 : (c.veiledFits P fn.params.toList (fn.params.toList ++ s.plain.varTypes P ++ fn.resultTypes.toList)) = true) : joinedFacts P f fn s c = true := by
 unfold joinedFacts
 simp only [hd, if_true, k0, k1, k2, k3, k4, k5, k6, k7, k8, k9, k10, k11, k12, k13, k14, k15, k16, k17, k18, k19, k20, k21, k22, k23, k24, k25, k26, k27, k28, k29, k30, k31, Bool.and_self]
set_option maxRecDepth 100000 in
theorem lifted (os : Os) (started : os.Started) (H : Type) (enc : TypeId × Value → H) :
  ReturnsInHanded {} Try.checked os 4 .any (Rows.fnExactSquaresOfSpec.pre6 enc Try.prog Try.f4 Rows.fnExactSquaresOfRow.domain false) (Rows.fnExactSquaresOfSpec.post enc Try.prog Try.f4 false true false false) := by
 refine returnsInHanded_of_change_sized (C := Try.checked) own started (by kernel_rfl) Try.func4
  (ChangeSpec.witness6 (enc := enc) (C := Try.checked) false ⟨#[], #[.agg #[.int .i64 0, .int .i64 0, .slice none 0 0, .slice none 0 0]], []⟩ 8 (by kernel_rfl) (by kernel_rfl) (by kernel_rfl) (by kernel_rfl)) ?_
 intro W base args ds gs before hval0 hW hcnd hsz0 _
 have hsz : (DataW.weightsEach Try.prog (Try.f4.params.toList ++ Rows.fnExactSquaresOfSpec.plain.varTypes Try.prog) (ds ++ gs)).all (· ≤ reachBytes) = true := hsz0
 have hval : ∀ (j : Nat) t v, Try.f4.params[j]? = some t → args[j]? = some v → Value.okWide Try.prog W .any base t v := hval0
 have hW' := hW
 obtain ⟨p, q, hA0, hV, rfl, hfz, hnd⟩ := hW
 have hA : DataW.TrodAll enc Try.prog W 0 (fun _ => true) true Try.f4.params.toList args.toList ds p := hA0
 rw [Try.params4] at hA hval hsz
 obtain ⟨v0, vs0, d0, ds0, p0, q0, hargs, rfl, rfl, h0, r0⟩ := trodAll_cons hA
 obtain ⟨rfl, rfl, rfl⟩ := trodAll_nil r0
 obtain rfl : args = #[v0] := by cases args; simp_all
 obtain ⟨rfl, rfl⟩ := trodVars_none hV
 have k0 := h0
 have lt0 : ∀ x ∈ p0, x.block < W.heap.size := by obtain ⟨m, hm⟩ := k0; exact DataW.trod_lt m _ _ _ hm

 obtain ⟨c0, c1, c2, c3, y0, y1, y2, y3, m, rfl, rfl, rfl, hy0, hy1, hy2, hy3⟩ := open_agg4 Try.underlying24 (by kernel_rfl) (by kernel_rfl) (hval 0 24 v0 rfl rfl) h0
 have hsz2 : (DataW.weightsEach Try.prog [3, 3, 22, 22] [y0.1, y1.1, y2.1, y3.1]).all (· ≤ reachBytes) = true := by
  rw [List.all_eq_true]
  intro n hn
  exact List.all_eq_true.1 hsz n (DataW.weights_mem_each (j := 0) (t := 24) (d := .agg [y0.1, y1.1, y2.1, y3.1]) rfl rfl n (by simp only [DataW.weights, Try.underlying24]; exact hn))
 obtain ⟨a, e0, -, wa⟩ := DataW.trod_int Try.underlying3 hy0
 obtain ⟨b, e1, -, wb⟩ := DataW.trod_int Try.underlying3 hy1
 obtain ⟨a2, len2, cap2, z2, rfl, w2⟩ := opened hy2
 obtain ⟨a3, len3, cap3, z3, rfl, w3⟩ := opened hy3
 have z2_ : len2 * 8 ≤ 140737488351232 := sized_ints hsz2 (j := 2) (t := 22) rfl rfl Try.underlying22 Try.underlying3 (by kernel_rfl) (by kernel_rfl) (⟨m, by simpa [Value.cells] using hy2⟩ : DataW.Trod enc Try.prog W 0 (fun _ => true) true 22 (.slice a2 len2 cap2) y2.1 y2.2)
 have z3_ : len3 * 8 ≤ 140737488351232 := sized_ints hsz2 (j := 3) (t := 22) rfl rfl Try.underlying22 Try.underlying3 (by kernel_rfl) (by kernel_rfl) (⟨m, by simpa [Value.cells] using hy3⟩ : DataW.Trod enc Try.prog W 0 (fun _ => true) true 22 (.slice a3 len3 cap3) y3.1 y3.2)
 obtain rfl : c0 = .int .i64 a := by simpa using e0
 obtain rfl : c1 = .int .i64 b := by simpa using e1
 clear hA0 hval0 hsz0 hsz hsz2
 refine (walk a b a2 len2 cap2 z2 a3 len3 cap3 z3  W w2 w3 z2_ z3_).mono fun e W' ⟨he, bel⟩ => ?_
 subst he
 exact ⟨_, rfl, _, _, _, [], _, [], hW', trodAll_mk1 (shut_bool Try.underlying4 _), (trodAll_cons_mk (Below.trod laidOut (by kernel_rfl) (of_decide_eq_true (by kernel_rfl)) k0 bel lt0) trodAll_mk0), rfl, bel.frame _, fun h => by cases h⟩
theorem k0_ : (Rows.fnExactSquaresOfRow.wf (OpenSpec.ofChange Rows.fnExactSquaresOfSpec)) = true := by kernel_rfl
theorem k1_ : (laidOutB Try.prog) = true := Closed.laidOut
theorem k2_ : (mapsRowed Try.prog) = true := Closed.mapsRowedP
theorem k3_ : (Try.f4.params.all (Try.prog.readableRec ·)) = true := by kernel_rfl
theorem k4_ : (namedTie Try.prog Rows.fnExactSquaresOfRow.named Rows.fnExactSquaresOfSpec.vars) = true := by kernel_rfl
theorem k5_ : ((Rows.fnExactSquaresOfRow.stops == [])) = true := by kernel_rfl
theorem k6_ : ((Try.prog.stops == [])) = true := Closed.noStops
theorem k7_ : ((Rows.fnExactSquaresOfRow.knobs == [])) = true := by kernel_rfl
theorem k8_ : ((Try.prog.stopKnobs == [])) = true := Closed.noKnobs
theorem k9_ : ((Rows.fnExactSquaresOfRow.inPlace == Try.prog.inPlace 4)) = true := by kernel_rfl
theorem k10_ : ((Rows.fnExactSquaresOfRow.unfollowed == Try.prog.unfollowed 4)) = true := by kernel_rfl
theorem k11_ : ((Rows.fnExactSquaresOfRow.recurses == Try.prog.recurses 4)) = true := by kernel_rfl
theorem k12_ : ((Rows.fnExactSquaresOfRow.named == Try.prog.varsNamed 4)) = true := by kernel_rfl
theorem k13_ : ((Rows.fnExactSquaresOfRow.maps == (Try.f4.params.toList ++ Rows.fnExactSquaresOfSpec.plain.varTypes Try.prog).any (Try.prog.mapsRec ·))) = true := by kernel_rfl
theorem k14_ : ((Rows.fnExactSquaresOfRow.ifaces == (Try.f4.params.toList ++ Rows.fnExactSquaresOfSpec.plain.varTypes Try.prog).any (Try.prog.ifacesRec ·))) = true := by kernel_rfl
theorem k15_ : ((Rows.fnExactSquaresOfRow.mapsOut == Try.prog.mapsAmong Try.f4.resultTypes.toList)) = true := by kernel_rfl
theorem k16_ : ((Rows.fnExactSquaresOfRow.loops == (Try.f4.params.toList ++ Rows.fnExactSquaresOfSpec.plain.varTypes Try.prog).any (Try.prog.loopsFrom ·))) = true := by kernel_rfl
theorem k17_ : ((Rows.fnExactSquaresOfRow.wideKeys == (Try.f4.params.toList ++ Rows.fnExactSquaresOfSpec.plain.varTypes Try.prog ++ Try.f4.resultTypes.toList).any (Try.prog.wideKeysFrom ·))) = true := by kernel_rfl
theorem k18_ : (Rows.fnExactSquaresOfSpec.vars.all (Try.prog.varReadable ·)) = true := by kernel_rfl
theorem k19_ : (Try.f4.resultTypes.all (fun t => Try.prog.readableRec t && decide (t < Try.prog.types.size))) = true := by kernel_rfl
theorem k20_ : ((Rows.fnExactSquaresOfRow.ifacesOut == Try.f4.resultTypes.toList.any (Try.prog.ifacesRec ·))) = true := by kernel_rfl
theorem k21_ : ((Rows.fnExactSquaresOfRow.loopsOut == Try.f4.resultTypes.toList.any (Try.prog.loopsFrom ·))) = true := by kernel_rfl
theorem k22_ : ((Rows.fnExactSquaresOfRow.plainKeys == Try.prog.plainKeys)) = true := by kernel_rfl
theorem k23_ : (Rows.fnExactSquaresOfRow.shortTexts.isNone) = true := by kernel_rfl
theorem k24_ : (Try.prog.stopsHeard) = true := Closed.stopsHeard
theorem k25_ : (Try.prog.mayEnter) = true := Closed.mayEnter
theorem k26_ : ((Rows.fnExactSquaresOfRow.lifted == Try.prog.liftsFinal)) = true := by rw [Closed.liftsFinal]; kernel_rfl
theorem k27_ : ((Try.prog.make == some Rows.fnExactSquaresOfRow.make)) = true := by rw [Closed.make]; kernel_rfl
theorem k28_ : ((Rows.fnExactSquaresOfRow.kinds == [])) = true := by kernel_rfl
theorem k29_ : ((Rows.fnExactSquaresOfRow.pinned == Rows.fnExactSquaresOfRow.pinnedBy)) = true := by kernel_rfl
theorem k30_ : ((Rows.fnExactSquaresOfRow.veiled == (Try.f4.params.toList ++ Rows.fnExactSquaresOfSpec.plain.varTypes Try.prog ++ Try.f4.resultTypes.toList).any (Try.prog.veiledRec ·))) = true := by kernel_rfl
theorem k31_ : (Rows.fnExactSquaresOfRow.veiledFits Try.prog Try.f4.params.toList (Try.f4.params.toList ++ Rows.fnExactSquaresOfSpec.plain.varTypes Try.prog ++ Try.f4.resultTypes.toList)) = true := by kernel_rfl
theorem k99_ : (Rows.fnExactSquaresOfRow.domain.isEmpty) = true := by kernel_rfl
theorem closed : joinedFacts Try.prog 4 Try.f4 Rows.fnExactSquaresOfSpec Rows.fnExactSquaresOfRow = true :=
 joined_mk _ _ _ _ _ k0_ k1_ k2_ k3_ k4_ k5_ k6_ k7_ k8_ k9_ k10_ k11_ k12_ k13_ k14_ k15_ k16_ k17_ k18_ k19_ k20_ k21_ k22_ k23_ k24_ k25_ k26_ k27_ k99_ k28_ k29_ k30_ k31_
theorem over : Rows.fnExactSquaresOfRow.holds Try.pinned (OpenSpec.ofChange Rows.fnExactSquaresOfSpec) :=
 OpenClaim.holds_of_wide 4 Try.f4 rfl rfl rfl rfl rfl rfl rfl ⟨rfl, rfl, rfl, rfl, rfl⟩ rfl rfl rfl rfl rfl (by kernel_rfl) Try.func4 closed
  (of_decide_eq_true (by kernel_rfl)) (by unfold Func.isWrapper; first | (rw [if_pos (by decide +kernel)]; kernel_rfl) | (rw [if_neg (by decide +kernel)]; exact ⟨rfl, rfl⟩))
  (fun os started H enc _ => lifted os started H enc)
theorem proved : Rows.FnExactSquaresOfSaid := over
end Go.Proofs.Yteaglkpplgbpaaa.fnExactSquaresOf
namespace Go.Proofs.Yteaglkpplgbpaaa
theorem fnExactSquaresOf_holds : Rows.FnExactSquaresOfSaid := fnExactSquaresOf.proved
end Go.Proofs.Yteaglkpplgbpaaa
