/- For every input the law FnExactCountToTake answers true: the program's CountToTake tells what the reference's CountToTake tells; no condition. (part 3 of the proof; the words of the kit's print tool and the texts of this seat, merged by a program) -/
import Derived.Below
import Derived.ChangeOld
import Derived.FnData
import Derived.Handed
import Derived.JoinedOf
import Derived.LaidHandle
import Derived.LaidLaws
import Derived.Lib.SmallJoins
import Derived.OpenShut
import Derived.ProofKit
import Derived.SevenTiedAt
import Derived.SizedLaws
import Derived.Test.YtehjfaddhmdicaaDoorCards
import Derived.Test.YtehjfaddhmdicaaDoorClosed
import Derived.Test.YtehjfaddhmdicaaDoorRows
import Derived.Test.YtehjfaddhmdicaaDoorTie
import Derived.WalkKit
import Derived.Test.YtehjfaddhmdicaaDoorMCT2
namespace Go.Proofs.YtehjfaddhmdicaaDoor.P
open Go.RowKit Go.Proofs.YtehjfaddhmdicaaDoorW.PrintWords Go.Proofs.YtehjfaddhmdicaaDoorW.PrintLast Go.Proofs.YtehjfaddhmdicaaDoorW.PrintMore
attribute [local go_sem] max2_int min2_int max_two min_two max_three min_three max_four min_four   -- for this text's walks alone
set_option linter.unusedVariables false
set_option linter.unusedSimpArgs false

mutual
def spec_sqAll.l0 : Nat → Int → Int → List (S122) → Int → Option ((List (S122)))
 | 0, _, _, _, _ => none
 | k + 1, x0, x1, x5, x6 => if x6 ≤ x0 then (spec_sqAll.j1 k x0 x1 x5 x6 (decide (x6 ≤ x1))) else (spec_sqAll.j1 k x0 x1 x5 x6 false)
def spec_sqAll.j1 : Nat → Int → Int → List (S122) → Int → Bool → Option ((List (S122)))
 | 0, _, _, _, _, _ => none
 | k + 1, x0, x1, x5, x6, x16 => if x16 = true then (spec_sqAll.l1 k x0 x1 x5 x6 0) else (some x5)
def spec_sqAll.l1 : Nat → Int → Int → List (S122) → Int → Int → Option ((List (S122)))
 | 0, _, _, _, _, _ => none
 | k + 1, x0, x1, x5, x6, x7 => if (wrap64 (x7 + x6)) ≤ x1 then (spec_sqAll.l2 k x0 x1 x5 x6 x7 0) else (spec_sqAll.l0 k x0 x1 x5 (wrap64 (x6 + 1)))
def spec_sqAll.l2 : Nat → Int → Int → List (S122) → Int → Int → Int → Option ((List (S122)))
 | 0, _, _, _, _, _, _ => none
 | k + 1, x0, x1, x5, x6, x7, x8 => if (wrap64 (x8 + x6)) ≤ x0 then ((spec_sqAround.f k x0 x1 x8 x7 x6 x6).bind fun t154 => (if x5.length < 4398046511104 then (spec_sqAll.l2 k x0 x1 (x5 ++ [(⟨x8, x7, x6, t154⟩ : S122)]) x6 x7 (wrap64 (x8 + 1))) else (none))) else (spec_sqAll.l1 k x0 x1 x5 x6 (wrap64 (x7 + 1)))
end
def spec_sqAll.f (k : Nat) (a0 : Int) (a1 : Int) : Option ((List (S122))) := spec_sqAll.l0 k a0 a1 ([] : List (S122)) 1
theorem spec_sqAll.mono_l : ∀ k, (∀ y0 y1 y2 y3, LeO (spec_sqAll.l0 k y0 y1 y2 y3) (spec_sqAll.l0 (k + 1) y0 y1 y2 y3)) ∧ (∀ y0 y1 y2 y3 y4, LeO (spec_sqAll.j1 k y0 y1 y2 y3 y4) (spec_sqAll.j1 (k + 1) y0 y1 y2 y3 y4)) ∧ (∀ y0 y1 y2 y3 y4, LeO (spec_sqAll.l1 k y0 y1 y2 y3 y4) (spec_sqAll.l1 (k + 1) y0 y1 y2 y3 y4)) ∧ (∀ y0 y1 y2 y3 y4 y5, LeO (spec_sqAll.l2 k y0 y1 y2 y3 y4 y5) (spec_sqAll.l2 (k + 1) y0 y1 y2 y3 y4 y5))
 | 0 => ⟨fun _ _ _ _ r h => by simp [spec_sqAll.l0] at h, fun _ _ _ _ _ r h => by simp [spec_sqAll.j1] at h, fun _ _ _ _ _ r h => by simp [spec_sqAll.l1] at h, fun _ _ _ _ _ _ r h => by simp [spec_sqAll.l2] at h⟩
 | k + 1 => by
  obtain ⟨ih0, ih1, ih2, ih3⟩ := spec_sqAll.mono_l k
  refine ⟨?_, ?_, ?_, ?_⟩
  ·intro y0 y1 y2 y3
   unfold spec_sqAll.l0
   repeat' first
   | (with_reducible exact ih0 _ _ _ _)
   | (with_reducible exact ih1 _ _ _ _ _)
   | (with_reducible exact ih2 _ _ _ _ _)
   | (with_reducible exact ih3 _ _ _ _ _ _)
   | (with_reducible exact spec_sqAround.mono _ _ _ _ _ _ _)
   | (with_reducible exact LeO.refl _)
   | (with_reducible exact LeO.none _)
   | (with_reducible refine LeO.ite ?_ ?_)
   | (with_reducible refine LeO.bind ?_ (fun _ => ?_))
   | exact ih0 _ _ _ _
   | exact ih1 _ _ _ _ _
   | exact ih2 _ _ _ _ _
   | exact ih3 _ _ _ _ _ _
   | exact spec_sqAround.mono _ _ _ _ _ _ _
   | exact LeO.none _
   | refine LeO.ite ?_ ?_
   | refine LeO.bind ?_ (fun _ => ?_)
  ·intro y0 y1 y2 y3 y4
   unfold spec_sqAll.j1
   repeat' first
   | (with_reducible exact ih0 _ _ _ _)
   | (with_reducible exact ih1 _ _ _ _ _)
   | (with_reducible exact ih2 _ _ _ _ _)
   | (with_reducible exact ih3 _ _ _ _ _ _)
   | (with_reducible exact spec_sqAround.mono _ _ _ _ _ _ _)
   | (with_reducible exact LeO.refl _)
   | (with_reducible exact LeO.none _)
   | (with_reducible refine LeO.ite ?_ ?_)
   | (with_reducible refine LeO.bind ?_ (fun _ => ?_))
   | exact ih0 _ _ _ _
   | exact ih1 _ _ _ _ _
   | exact ih2 _ _ _ _ _
   | exact ih3 _ _ _ _ _ _
   | exact spec_sqAround.mono _ _ _ _ _ _ _
   | exact LeO.none _
   | refine LeO.ite ?_ ?_
   | refine LeO.bind ?_ (fun _ => ?_)
  ·intro y0 y1 y2 y3 y4
   unfold spec_sqAll.l1
   repeat' first
   | (with_reducible exact ih0 _ _ _ _)
   | (with_reducible exact ih1 _ _ _ _ _)
   | (with_reducible exact ih2 _ _ _ _ _)
   | (with_reducible exact ih3 _ _ _ _ _ _)
   | (with_reducible exact spec_sqAround.mono _ _ _ _ _ _ _)
   | (with_reducible exact LeO.refl _)
   | (with_reducible exact LeO.none _)
   | (with_reducible refine LeO.ite ?_ ?_)
   | (with_reducible refine LeO.bind ?_ (fun _ => ?_))
   | exact ih0 _ _ _ _
   | exact ih1 _ _ _ _ _
   | exact ih2 _ _ _ _ _
   | exact ih3 _ _ _ _ _ _
   | exact spec_sqAround.mono _ _ _ _ _ _ _
   | exact LeO.none _
   | refine LeO.ite ?_ ?_
   | refine LeO.bind ?_ (fun _ => ?_)
  ·intro y0 y1 y2 y3 y4 y5
   unfold spec_sqAll.l2
   repeat' first
   | (with_reducible exact ih0 _ _ _ _)
   | (with_reducible exact ih1 _ _ _ _ _)
   | (with_reducible exact ih2 _ _ _ _ _)
   | (with_reducible exact ih3 _ _ _ _ _ _)
   | (with_reducible exact spec_sqAround.mono _ _ _ _ _ _ _)
   | (with_reducible exact LeO.refl _)
   | (with_reducible exact LeO.none _)
   | (with_reducible refine LeO.ite ?_ ?_)
   | (with_reducible refine LeO.bind ?_ (fun _ => ?_))
   | exact ih0 _ _ _ _
   | exact ih1 _ _ _ _ _
   | exact ih2 _ _ _ _ _
   | exact ih3 _ _ _ _ _ _
   | exact spec_sqAround.mono _ _ _ _ _ _ _
   | exact LeO.none _
   | refine LeO.ite ?_ ?_
   | refine LeO.bind ?_ (fun _ => ?_)
theorem spec_sqAll.mono : ∀ a0 a1 k, LeO (spec_sqAll.f k a0 a1) (spec_sqAll.f (k + 1) a0 a1) := by
 intro a0 a1 k
 obtain ⟨ih0, ih1, ih2, ih3⟩ := spec_sqAll.mono_l k
 unfold spec_sqAll.f
 repeat' first
   | (with_reducible exact ih0 _ _ _ _)
   | (with_reducible exact ih1 _ _ _ _ _)
   | (with_reducible exact ih2 _ _ _ _ _)
   | (with_reducible exact ih3 _ _ _ _ _ _)
   | (with_reducible exact spec_sqAround.mono _ _ _ _ _ _ _)
   | (with_reducible exact LeO.refl _)
   | (with_reducible exact LeO.none _)
   | (with_reducible refine LeO.ite ?_ ?_)
   | (with_reducible refine LeO.bind ?_ (fun _ => ?_))
   | exact ih0 _ _ _ _
   | exact ih1 _ _ _ _ _
   | exact ih2 _ _ _ _ _
   | exact ih3 _ _ _ _ _ _
   | exact spec_sqAround.mono _ _ _ _ _ _ _
   | exact LeO.none _
   | refine LeO.ite ?_ ?_
   | refine LeO.bind ?_ (fun _ => ?_)
set_option maxHeartbeats 8000000 in
set_option maxRecDepth 100000 in
theorem spec_sqAll.calls (k : Nat) (a0 : Int) (a1 : Int) (r : List (S122)) (w : World) (h : spec_sqAll.f k a0 a1 = some r) :
  Calls Tryd.prog 49 #[.int .i64 a0, .int .i64 a1] w fun e w' => ∃ v0_ : Value, e = .returned (v0_) ∧ Kd.R k122 122 w' w.heap.size (fun _ => True) v0_ r ∧ Below w.heap.size w w' := by
 have hu122 := Tryd.underlying122
 have HB := Aside0.mk (Below.refl w.heap.size w)
 have H : (spec_sqAll.l0 k a0 a1 ([] : List (S122)) 1) = some r := h
 clear h
 have H' := Aside0.mk H
 clear H
 go_enter Tryd.func49, Tryd.ntmps49
 go_wp2
 go_loopg [5, 6] k (fun kq v5 v6 w' => ∃ (x5_1 : List (S122)) (x6_1 : Int), v6 = .int .i64 x6_1 ∧ Aside0 (spec_sqAll.l0 kq a0 a1 x5_1 x6_1 = some r) ∧ Aside0 (kq ≤ k) ∧ Aside0 (Kd.R k122 122 w' w.heap.size (fun _ => True) v5 x5_1) ∧ Aside0 (Below w.heap.size w w'))
 case atStart => exact ⟨(([] : List (S122))), (1), rs_, H', ⟨Nat.le_refl _⟩, ⟨by first | exact Kd.R_nil _ _ _ _ _ | exact Kd.N_nil _ _ _ _ _ | exact Kd.V_nil _ _ _ _ _ | exact Kd.Q_nil _ _ _ _ _ | exact Kd.S_nil _ _ _ _ _⟩, ⟨bl0_ HB.out⟩⟩
 case round =>
  clear H'
  try clear p2
  obtain ⟨x5_1, x6_1, rfl, HA, HK1, HO_5, HB⟩ := hrel
  cases gk with
  | zero => exact absurd HA.out (by simp [spec_sqAll.l0])
  | succ k1 =>
   have H := HA.out
   clear HA
   simp only [spec_sqAll.l0] at H
   have HC3 := Aside0.mk H
   clear H
   go_upto_region 3 with (fail)
   go_cut [16] (fun v16 wc => ∃ (kq : Nat) (x16_2 : Bool), v16 = .bool x16_2 ∧ Aside0 (spec_sqAll.j1 kq a0 a1 x5_1 x6_1 x16_2 = some r) ∧ Aside0 (kq ≤ k1) ∧ Aside0 (Kd.R k122 122 wc w.heap.size (fun _ => True) u5 x5_1) ∧ Aside0 (Below w.heap.size w wc))
   case first =>
    have H := HC3.out
    clear HC3
    by_cases c4 : x6_1 ≤ a0
    ·rw [if_pos c4] at H
     have c4b0 : decide (x6_1 ≤ a0) = true := decide_eq_true c4
     clear c4
     (first | rw [c4b0] | (simp only [i64_w, i32_w]; rw [c4b0]) | skip)
     have H' := Aside0.mk H
     clear H
     go_wp2
     go_meet
     case rel => exact ⟨_, (decide (x6_1 ≤ a1)), rs_, H', ⟨by have := HK1.out; first | omega | exact Nat.le_refl _⟩, ⟨kr_ HO_5.out⟩, ⟨bl0_ HB.out⟩⟩
    ·rw [if_neg c4] at H
     have c4b0 : decide (x6_1 ≤ a0) = false := decide_eq_false c4
     clear c4
     (first | rw [c4b0] | (simp only [i64_w, i32_w]; rw [c4b0]) | skip)
     have H' := Aside0.mk H
     clear H
     go_wp2
     go_meet
     case rel => exact ⟨_, (false), rs_, H', ⟨by have := HK1.out; first | omega | exact Nat.le_refl _⟩, ⟨kr_ HO_5.out⟩, ⟨bl0_ HB.out⟩⟩
   case rest =>
    clear HC3
    try clear p2
    try clear c4
    try clear c4b0
    try clear p2
    obtain ⟨kq, x16_2, rfl, HA, HJ2, HO_5, HB⟩ := hcut
    cases kq with
    | zero => exact absurd HA.out (by simp [spec_sqAll.j1])
    | succ kj2 =>
     have H := HA.out
     clear HA
     simp only [spec_sqAll.j1] at H
     by_cases c5 : x16_2 = true
     ·subst c5
      have H1 : (spec_sqAll.l1 kj2 a0 a1 x5_1 x6_1 0) = some r := by rw [if_pos rfl] at H; exact H
      clear H
      have H := H1
      clear H1
      have H' := Aside0.mk H
      clear H
      go_wp2
      go_loopg [5, 7] kj2 (fun kq v5 v7 w' => ∃ (x5_3 : List (S122)) (x7_3 : Int), v7 = .int .i64 x7_3 ∧ Aside0 (spec_sqAll.l1 kq a0 a1 x5_3 x6_1 x7_3 = some r) ∧ Aside0 (kq ≤ kj2) ∧ Aside0 (Kd.R k122 122 w' w.heap.size (fun _ => True) v5 x5_3) ∧ Aside0 (Below w.heap.size w w'))
      case atStart => exact ⟨(x5_1), (0), rs_, H', ⟨Nat.le_refl _⟩, ⟨kr_ HO_5.out⟩, ⟨bl0_ HB.out⟩⟩
      case round =>
       clear H'
       try clear p2
       try clear c4
       try clear c4b0
       try clear c5
       try clear p2
       obtain ⟨x5_3, x7_3, rfl, HA, HK3, HO_5, HB⟩ := hrel
       cases gk with
       | zero => exact absurd HA.out (by simp [spec_sqAll.l1])
       | succ k3 =>
        have H := HA.out
        clear HA
        simp only [spec_sqAll.l1] at H
        by_cases c6 : (wrap64 (x7_3 + x6_1)) ≤ a1
        ·rw [if_pos c6] at H
         have c6b0 : decide ((wrap64 (x7_3 + x6_1)) ≤ a1) = true := decide_eq_true c6
         clear c6
         have H' := Aside0.mk H
         clear H
         go_wp2
         go_loopg [5, 8] k3 (fun kq v5 v8 w' => ∃ (x5_4 : List (S122)) (x8_4 : Int), v8 = .int .i64 x8_4 ∧ Aside0 (spec_sqAll.l2 kq a0 a1 x5_4 x6_1 x7_3 x8_4 = some r) ∧ Aside0 (kq ≤ k3) ∧ Aside0 (Kd.R k122 122 w' w.heap.size (fun _ => True) v5 x5_4) ∧ Aside0 (Below w.heap.size w w'))
         case atStart => exact ⟨(x5_3), (0), rs_, H', ⟨Nat.le_refl _⟩, ⟨kr_ HO_5.out⟩, ⟨bl0_ HB.out⟩⟩
         case round =>
          clear H'
          try clear p2
          try clear c4
          try clear c4b0
          try clear c5
          try clear c6
          try clear c6b0
          try clear p6
          try clear p2
          obtain ⟨x5_4, x8_4, rfl, HA, HK4, HO_5, HB⟩ := hrel
          cases gk with
          | zero => exact absurd HA.out (by simp [spec_sqAll.l2])
          | succ k4 =>
           have H := HA.out
           clear HA
           simp only [spec_sqAll.l2] at H
           by_cases c7 : (wrap64 (x8_4 + x6_1)) ≤ a0
           ·rw [if_pos c7] at H
            have c7b0 : decide ((wrap64 (x8_4 + x6_1)) ≤ a0) = true := decide_eq_true c7
            clear c7
            replace H := Option.bind_eq_some_iff.mp H
            obtain ⟨t154, A80, H⟩ := H
            replace H : (if x5_4.length < 4398046511104 then (spec_sqAll.l2 k4 a0 a1 (x5_4 ++ [(⟨x8_4, x7_3, x6_1, t154⟩ : S122)]) x6_1 x7_3 (wrap64 (x8_4 + 1))) else (none)) = some r := H
            have A8 := Aside0.mk A80
            clear A80
            by_cases c9 : x5_4.length < 4398046511104
            ·rw [if_pos c9] at H
             have LMc9 := Aside0.mk c9
             clear c9
             obtain ⟨y155, hy155⟩ : ∃ y_ : List (S122), y_ = (x5_4 ++ [(⟨x8_4, x7_3, x6_1, t154⟩ : S122)]) := ⟨_, rfl⟩
             replace H : (spec_sqAll.l2 k4 a0 a1 y155 x6_1 x7_3 (wrap64 (x8_4 + 1))) = some r := by first | (rw [hy155]; with_reducible exact H) | (have H2_ := (Option.bind_some _ _).symm.trans H; rw [hy155]; with_reducible exact H2_) | (have H2_ := (Option.bind_some _ _).symm.trans H; with_reducible exact H2_) | with_reducible exact H | (rw [hy155]; exact H) | exact H
             have Ny155 := Aside0.mk hy155
             clear hy155
             have H' := Aside0.mk H
             clear H
             go_wp2_with (first | ((with_reducible refine gate_callee (f := 96) rfl ?_); refine goesL_ (some 43) rfl rfl Tryd.func96 (by kernel_rfl) rfl #[.int .i64 a0, .int .i64 a1, .int .i64 x8_4, .int .i64 x7_3, .int .i64 x6_1, .int .i64 x6_1] rfl ob_ ?_; (with_reducible refine (spec_sqAround.calls k4 a0 a1 x8_4 x7_3 x6_1 x6_1 t154 _ A8.out).mono ?_); rintro e w' ⟨rfl, ⟨nd, rfl⟩⟩; refine ⟨_, rfl, ?_⟩) | ((with_reducible refine gate_builtin (b := .append) (xs := #[.tmp 33, .tmp 45]) rfl ?_); at_builtin; refine Kd.R_append k122 (w0 := w) w.heap.size rfl (.tmp 33) (.tmp 45) 69 122 (.agg #[(.int .i64 0), (.int .i64 0), (.int .i64 0), (.int .i64 0)]) 32 rfl Tryd.underlying69 info122 rfl (by decide) (by omega) u5 x5_4 (⟨x8_4, x7_3, x6_1, t154⟩ : S122) [.int .i64 x8_4, .int .i64 x7_3, .int .i64 x6_1, .int .i64 t154] (fun _ => True) (fun _ => False) rfl rfl ?aP (fun _ hk => hk.elim) ?aF ?aO ?aB ?aS ?aL ?_; (case aP => exact k122_mkM _ _ _ (⟨x8_4, x7_3, x6_1, t154⟩ : S122)); (case aB => exact (bl0_ HB.out)); (case aF => exact (fun _ _ => trivial)); (case aO => exact (kr_ HO_5.out)); (case aS => exact (below_size (bl0_ HB.out))); (case aL => have := LMc9.out; omega); intro v156 w10 ho hb hg hat; rw [← Ny155.out] at ho; have n0_ := Aside0.mk (hb); have n1_ := Aside0.mk (ho); clear HB; clear HO_5; have HB := n0_; have HO157 := n1_; clear n0_ n1_; clear ho hb hg hat))
             go_roundg k4
             case measure => have := HK1.out; have := HJ2.out; have := HK3.out; have := HK4.out; omega
             case rel => exact ⟨(y155), (wrap64 (x8_4 + 1)), rs_, H', ⟨by have := HK1.out; have := HJ2.out; have := HK3.out; have := HK4.out; omega⟩, ⟨kr_ HO157.out⟩, ⟨bl0_ HB.out⟩⟩
            ·rw [if_neg c9] at H
             exact absurd H (by simp)
           ·rw [if_neg c7] at H
            have c7b0 : decide ((wrap64 (x8_4 + x6_1)) ≤ a0) = false := decide_eq_false c7
            clear c7
            have H' := Aside0.mk H
            clear H
            go_wp2
            go_roundg k4
            case measure => have := HK1.out; have := HJ2.out; have := HK3.out; have := HK4.out; omega
            case rel => exact ⟨(x5_4), (wrap64 (x7_3 + 1)), rs_, H', ⟨by have := HK1.out; have := HJ2.out; have := HK3.out; have := HK4.out; omega⟩, ⟨kr_ HO_5.out⟩, ⟨bl0_ HB.out⟩⟩
        ·rw [if_neg c6] at H
         have c6b0 : decide ((wrap64 (x7_3 + x6_1)) ≤ a1) = false := decide_eq_false c6
         clear c6
         have H' := Aside0.mk H
         clear H
         go_wp2
         go_roundg k3
         case measure => have := HK1.out; have := HJ2.out; have := HK3.out; omega
         case rel => exact ⟨(x5_3), (wrap64 (x6_1 + 1)), rs_, H', ⟨by have := HK1.out; have := HJ2.out; have := HK3.out; omega⟩, ⟨kr_ HO_5.out⟩, ⟨bl0_ HB.out⟩⟩
     ·replace c5 := Bool.eq_false_iff.mpr c5
      subst c5
      have H1 : (some x5_1) = some r := by rw [if_neg (show ¬ (false = true) by decide)] at H; exact H
      clear H
      have H := H1
      clear H1
      obtain rfl := Option.some.inj H
      go_wp2
      go_ret
      exact ⟨_, er_, by (with_reducible repeat (first | apply Kd.R_alloc | apply Kd.R_drewN | apply Kd.R_drew)); exact HO_5.out, bl0_ HB.out⟩


mutual
def spec_sqMask.l0 : Nat → Int → List Int → Int → Int → Int → Int → List Int → List Int → Option (Int)
 | 0, _, _, _, _, _, _, _, _ => none
 | k + 1, x3, x9, x10, x11, x159000, x159001, x159002, x159003 => if x11 < x10 then (if 0 ≤ x11 then (if x11 < (x9.length : Int) then ((spec_sqBit.f x159000 x159001 false (rd x9 x11)).bind fun t160 => (spec_sqMask.l0 k (Go.bits .or .i64 x3 t160) x9 x10 (wrap64 (x11 + 1)) x159000 x159001 x159002 x159003)) else (none)) else (none)) else (spec_sqMask.l1 k x3 x159003 (x159003.length : Int) 0 x159000 x159001 x159002 x159003)
def spec_sqMask.l1 : Nat → Int → List Int → Int → Int → Int → Int → List Int → List Int → Option (Int)
 | 0, _, _, _, _, _, _, _, _ => none
 | k + 1, x3, x25, x26, x27, x159000, x159001, x159002, x159003 => if x27 < x26 then (if 0 ≤ x27 then (if x27 < (x25.length : Int) then ((spec_sqBit.f x159000 x159001 true (rd x25 x27)).bind fun t162 => (spec_sqMask.l1 k (Go.bits .or .i64 x3 t162) x25 x26 (wrap64 (x27 + 1)) x159000 x159001 x159002 x159003)) else (none)) else (none)) else (some x3)
end
def spec_sqMask.f (k : Nat) (a0_0 : Int) (a0_1 : Int) (l0_2 : List Int) (l0_3 : List Int) : Option (Int) := spec_sqMask.l0 k 0 l0_2 (l0_2.length : Int) 0 a0_0 a0_1 l0_2 l0_3
theorem spec_sqMask.mono_l : ∀ k, (∀ y0 y1 y2 y3 y4 y5 y6 y7, LeO (spec_sqMask.l0 k y0 y1 y2 y3 y4 y5 y6 y7) (spec_sqMask.l0 (k + 1) y0 y1 y2 y3 y4 y5 y6 y7)) ∧ (∀ y0 y1 y2 y3 y4 y5 y6 y7, LeO (spec_sqMask.l1 k y0 y1 y2 y3 y4 y5 y6 y7) (spec_sqMask.l1 (k + 1) y0 y1 y2 y3 y4 y5 y6 y7))
 | 0 => ⟨fun _ _ _ _ _ _ _ _ r h => by simp [spec_sqMask.l0] at h, fun _ _ _ _ _ _ _ _ r h => by simp [spec_sqMask.l1] at h⟩
 | k + 1 => by
  obtain ⟨ih0, ih1⟩ := spec_sqMask.mono_l k
  refine ⟨?_, ?_⟩
  ·intro y0 y1 y2 y3 y4 y5 y6 y7
   unfold spec_sqMask.l0
   repeat' first
   | (with_reducible exact ih0 _ _ _ _ _ _ _ _)
   | (with_reducible exact ih1 _ _ _ _ _ _ _ _)
   | (with_reducible exact LeO.refl _)
   | (with_reducible exact LeO.none _)
   | (with_reducible refine LeO.ite ?_ ?_)
   | (with_reducible refine LeO.bind ?_ (fun _ => ?_))
   | exact ih0 _ _ _ _ _ _ _ _
   | exact ih1 _ _ _ _ _ _ _ _
   | exact LeO.none _
   | refine LeO.ite ?_ ?_
   | refine LeO.bind ?_ (fun _ => ?_)
  ·intro y0 y1 y2 y3 y4 y5 y6 y7
   unfold spec_sqMask.l1
   repeat' first
   | (with_reducible exact ih0 _ _ _ _ _ _ _ _)
   | (with_reducible exact ih1 _ _ _ _ _ _ _ _)
   | (with_reducible exact LeO.refl _)
   | (with_reducible exact LeO.none _)
   | (with_reducible refine LeO.ite ?_ ?_)
   | (with_reducible refine LeO.bind ?_ (fun _ => ?_))
   | exact ih0 _ _ _ _ _ _ _ _
   | exact ih1 _ _ _ _ _ _ _ _
   | exact LeO.none _
   | refine LeO.ite ?_ ?_
   | refine LeO.bind ?_ (fun _ => ?_)
theorem spec_sqMask.mono : ∀ a0 a1 a2 a3 k, LeO (spec_sqMask.f k a0 a1 a2 a3) (spec_sqMask.f (k + 1) a0 a1 a2 a3) := by
 intro a0 a1 a2 a3 k
 obtain ⟨ih0, ih1⟩ := spec_sqMask.mono_l k
 unfold spec_sqMask.f
 repeat' first
   | (with_reducible exact ih0 _ _ _ _ _ _ _ _)
   | (with_reducible exact ih1 _ _ _ _ _ _ _ _)
   | (with_reducible exact LeO.refl _)
   | (with_reducible exact LeO.none _)
   | (with_reducible refine LeO.ite ?_ ?_)
   | (with_reducible refine LeO.bind ?_ (fun _ => ?_))
   | exact ih0 _ _ _ _ _ _ _ _
   | exact ih1 _ _ _ _ _ _ _ _
   | exact LeO.none _
   | refine LeO.ite ?_ ?_
   | refine LeO.bind ?_ (fun _ => ?_)
set_option maxHeartbeats 8000000 in
set_option maxRecDepth 100000 in
theorem spec_sqMask.calls (k : Nat) (a0_0 : Int) (a0_1 : Int) (A0_2 : Option Addr) (c0_2 : Nat) (l0_2 : List Int) (A0_3 : Option Addr) (c0_3 : Nat) (l0_3 : List Int) (r : Int) (w : World) (hr0_2 : Kd.C (Kd.int .i64) w A0_2 l0_2.length l0_2) (hc0_2 : l0_2.length ≤ c0_2) (hr0_3 : Kd.C (Kd.int .i64) w A0_3 l0_3.length l0_3) (hc0_3 : l0_3.length ≤ c0_3) (h : spec_sqMask.f k a0_0 a0_1 l0_2 l0_3 = some r) :
  Calls Tryd.prog 50 #[.agg #[.int .i64 a0_0, .int .i64 a0_1, .slice A0_2 l0_2.length c0_2, .slice A0_3 l0_3.length c0_3]] w fun e w' => e = .returned (.int .i64 r) ∧ Below w.heap.size w w' := by
 have hu36 := Tryd.underlying36
 have HR0_2 := Aside0.mk hr0_2
 have HC0_2 := Aside0.mk hc0_2
 clear hr0_2 hc0_2
 have HR0_3 := Aside0.mk hr0_3
 have HC0_3 := Aside0.mk hc0_3
 clear hr0_3 hc0_3
 have HB := Aside0.mk (Below.refl w.heap.size w)
 have H : (spec_sqMask.l0 k 0 l0_2 (l0_2.length : Int) 0 a0_0 a0_1 l0_2 l0_3) = some r := h
 clear h
 have H' := Aside0.mk H
 clear H
 go_enter Tryd.func50, Tryd.ntmps50
 go_wp2_with (first | ((with_reducible refine gate_dst (N := 1) rfl ?_); refine boxE_ (N := 1) (cs := #[.int .i64 a0_0, .int .i64 a0_1, .slice A0_2 l0_2.length c0_2, .slice A0_3 l0_3.length c0_3]) (t := 36) ?_; intro gb158 hg w2 hbox hb; have n0_ := Aside0.mk (below_step (bl0_ HB.out) hb); have n1_ := Aside0.mk (hbox); have n2_ := Aside0.mk ((bs0_ hg HB.out : w.heap.size ≤ gb158)); have n3_ := Aside0.mk ((bs0_ hg HB.out : w.heap.size ≤ gb158)); clear HB; have HB := n0_; have BK158 := n1_; have GW158 := n2_; have GE158 := n3_; clear n0_ n1_ n2_ n3_; clear hb hbox hg; have hcz3_0 : w2.cell? ⟨gb158, 0, none⟩ = some (.int .i64 a0_0) := (blk_cell BK158.out 0).trans rfl; have hcz3_1 : w2.cell? ⟨gb158, 1, none⟩ = some (.int .i64 a0_1) := (blk_cell BK158.out 1).trans rfl; have hcz3_2 : w2.cell? ⟨gb158, 2, none⟩ = some (.slice A0_2 l0_2.length c0_2) := (blk_cell BK158.out 2).trans rfl; have hcz3_3 : w2.cell? ⟨gb158, 3, none⟩ = some (.slice A0_3 l0_3.length c0_3) := (blk_cell BK158.out 3).trans rfl; have hfz3_0 := blk_frozen BK158.out 0; have hfz3_1 := blk_frozen BK158.out 1; have hfz3_2 := blk_frozen BK158.out 2; have hfz3_3 := blk_frozen BK158.out 3))
 go_loopg [3, 11] k (fun kq v3 v11 w' => ∃ (x3_1 : Int) (x11_1 : Int), v3 = .int .i64 x3_1 ∧ v11 = .int .i64 x11_1 ∧ Aside0 (spec_sqMask.l0 kq x3_1 l0_2 (l0_2.length : Int) x11_1 a0_0 a0_1 l0_2 l0_3 = some r) ∧ Aside0 (kq ≤ k) ∧ Aside0 (w'.heap[gb158]? = some (.cells #[.int .i64 a0_0, .int .i64 a0_1, (.slice A0_2 l0_2.length c0_2), (.slice A0_3 l0_3.length c0_3)] 36 (0, 0))) ∧ Aside0 (Below w.heap.size w w'))
 case atStart => exact ⟨(0), (0), rs_, rs_, H', ⟨Nat.le_refl _⟩, ⟨bk_ BK158.out⟩, ⟨bl1_ HB.out GE158.out⟩⟩
 case round =>
  clear H'
  try clear p2
  try clear hcz3_0
  try clear hcz3_1
  try clear hcz3_2
  try clear hcz3_3
  try clear hfz3_0
  try clear hfz3_1
  try clear hfz3_2
  try clear hfz3_3
  obtain ⟨x3_1, x11_1, rfl, rfl, HA, HK1, BK158, HB⟩ := hrel
  cases gk with
  | zero => exact absurd HA.out (by simp [spec_sqMask.l0])
  | succ k1 =>
   have H := HA.out
   clear HA
   simp only [spec_sqMask.l0] at H
   by_cases c4 : x11_1 < (l0_2.length : Int)
   ·rw [if_pos c4] at H
    have c4b0 : decide (x11_1 < (l0_2.length : Int)) = true := decide_eq_true c4
    clear c4
    by_cases c5 : 0 ≤ x11_1
    ·rw [if_pos c5] at H
     have c5b0 : decide (0 ≤ x11_1) = true := decide_eq_true c5
     clear c5
     by_cases c6 : x11_1 < (l0_2.length : Int)
     ·rw [if_pos c6] at H
      have c6b0 : decide (x11_1 < (l0_2.length : Int)) = true := decide_eq_true c6
      clear c6
      replace H := Option.bind_eq_some_iff.mp H
      obtain ⟨t160, A70, H⟩ := H
      replace H : (spec_sqMask.l0 k1 (Go.bits .or .i64 x3_1 t160) l0_2 (l0_2.length : Int) (wrap64 (x11_1 + 1)) a0_0 a0_1 l0_2 l0_3) = some r := H
      have A7 := Aside0.mk A70
      clear A70
      have H' := Aside0.mk H
      clear H
      have p159 : 0 ≤ (x11_1 : Int) := of_decide_eq_true as_
      have q159 : x11_1 < (l0_2.length : Int) := of_decide_eq_true as_
      obtain ⟨ad159, e159, hx159_0⟩ := Kd.at_int HR0_2.out x11_1 p159 q159
      cases e159
      replace hx159_0 := (HB.out.cell (World.block_lt_of_cell? w _ hx159_0)).trans hx159_0
      replace p159 := eq_true p159
      replace q159 := eq_true q159
      have hcz8_0 : wr.cell? ⟨gb158, 0, none⟩ = some (.int .i64 a0_0) := (blk_cell BK158.out 0).trans rfl
      have hcz8_1 : wr.cell? ⟨gb158, 1, none⟩ = some (.int .i64 a0_1) := (blk_cell BK158.out 1).trans rfl
      have hcz8_2 : wr.cell? ⟨gb158, 2, none⟩ = some (.slice (some ad159) l0_2.length c0_2) := (blk_cell BK158.out 2).trans rfl
      have hcz8_3 : wr.cell? ⟨gb158, 3, none⟩ = some (.slice A0_3 l0_3.length c0_3) := (blk_cell BK158.out 3).trans rfl
      have hfz8_0 := blk_frozen BK158.out 0
      have hfz8_1 := blk_frozen BK158.out 1
      have hfz8_2 := blk_frozen BK158.out 2
      have hfz8_3 := blk_frozen BK158.out 3
      go_wp2_with (first | ((with_reducible refine gate_callee (f := 97) rfl ?_); refine goesL_ (some 21) rfl rfl Tryd.func97 (by kernel_rfl) rfl #[.int .i64 a0_0, .int .i64 a0_1, .bool false, .int .i64 (rd l0_2 x11_1)] rfl ob_ ?_; (with_reducible refine (spec_sqBit.calls a0_0 a0_1 false (rd l0_2 x11_1) t160 _ A7.out).mono ?_); rintro e w' ⟨rfl, ⟨nd, rfl⟩⟩; refine ⟨_, rfl, ?_⟩))
      go_roundg k1
      case measure => have := HK1.out; omega
      case rel => exact ⟨(Go.bits .or .i64 x3_1 t160), (wrap64 (x11_1 + 1)), rs_, rs_, H', ⟨by have := HK1.out; omega⟩, ⟨bk_ BK158.out⟩, ⟨bl1_ HB.out GE158.out⟩⟩
     ·rw [if_neg c6] at H
      exact absurd H (by simp)
    ·rw [if_neg c5] at H
     exact absurd H (by simp)
   ·rw [if_neg c4] at H
    have c4b0 : decide (x11_1 < (l0_2.length : Int)) = false := decide_eq_false c4
    clear c4
    have H' := Aside0.mk H
    clear H
    have hcz9_0 : wr.cell? ⟨gb158, 0, none⟩ = some (.int .i64 a0_0) := (blk_cell BK158.out 0).trans rfl
    have hcz9_1 : wr.cell? ⟨gb158, 1, none⟩ = some (.int .i64 a0_1) := (blk_cell BK158.out 1).trans rfl
    have hcz9_2 : wr.cell? ⟨gb158, 2, none⟩ = some (.slice A0_2 l0_2.length c0_2) := (blk_cell BK158.out 2).trans rfl
    have hcz9_3 : wr.cell? ⟨gb158, 3, none⟩ = some (.slice A0_3 l0_3.length c0_3) := (blk_cell BK158.out 3).trans rfl
    have hfz9_0 := blk_frozen BK158.out 0
    have hfz9_1 := blk_frozen BK158.out 1
    have hfz9_2 := blk_frozen BK158.out 2
    have hfz9_3 := blk_frozen BK158.out 3
    go_wp2
    go_loopg [3, 27] k1 (fun kq v3 v27 w' => ∃ (x3_2 : Int) (x27_2 : Int), v3 = .int .i64 x3_2 ∧ v27 = .int .i64 x27_2 ∧ Aside0 (spec_sqMask.l1 kq x3_2 l0_3 (l0_3.length : Int) x27_2 a0_0 a0_1 l0_2 l0_3 = some r) ∧ Aside0 (kq ≤ k1) ∧ Aside0 (w'.heap[gb158]? = some (.cells #[.int .i64 a0_0, .int .i64 a0_1, (.slice A0_2 l0_2.length c0_2), (.slice A0_3 l0_3.length c0_3)] 36 (0, 0))) ∧ Aside0 (Below w.heap.size w w'))
    case atStart => exact ⟨(x3_1), (0), rs_, rs_, H', ⟨Nat.le_refl _⟩, ⟨bk_ BK158.out⟩, ⟨bl1_ HB.out GE158.out⟩⟩
    case round =>
     clear H'
     try clear p1
     try clear q1
     try clear hx1
     try clear p2
     try clear c4
     try clear c4b0
     try clear c5
     try clear c5b0
     try clear c6
     try clear c6b0
     try clear p6
     try clear c9
     try clear hcz3_0
     try clear hcz3_1
     try clear hcz3_2
     try clear hcz3_3
     try clear hcz8_0
     try clear hcz8_1
     try clear hcz8_2
     try clear hcz8_3
     try clear hcz9_0
     try clear hcz9_1
     try clear hcz9_2
     try clear hcz9_3
     try clear hfz3_0
     try clear hfz3_1
     try clear hfz3_2
     try clear hfz3_3
     try clear hfz8_0
     try clear hfz8_1
     try clear hfz8_2
     try clear hfz8_3
     try clear hfz9_0
     try clear hfz9_1
     try clear hfz9_2
     try clear hfz9_3
     try clear hx159_0
     try clear p159
     try clear p2
     try clear q159
     obtain ⟨x3_2, x27_2, rfl, rfl, HA, HK2, BK158, HB⟩ := hrel
     cases gk with
     | zero => exact absurd HA.out (by simp [spec_sqMask.l1])
     | succ k2 =>
      have H := HA.out
      clear HA
      simp only [spec_sqMask.l1] at H
      by_cases c10 : x27_2 < (l0_3.length : Int)
      ·rw [if_pos c10] at H
       have c10b0 : decide (x27_2 < (l0_3.length : Int)) = true := decide_eq_true c10
       clear c10
       by_cases c11 : 0 ≤ x27_2
       ·rw [if_pos c11] at H
        have c11b0 : decide (0 ≤ x27_2) = true := decide_eq_true c11
        clear c11
        by_cases c12 : x27_2 < (l0_3.length : Int)
        ·rw [if_pos c12] at H
         have c12b0 : decide (x27_2 < (l0_3.length : Int)) = true := decide_eq_true c12
         clear c12
         replace H := Option.bind_eq_some_iff.mp H
         obtain ⟨t162, A130, H⟩ := H
         replace H : (spec_sqMask.l1 k2 (Go.bits .or .i64 x3_2 t162) l0_3 (l0_3.length : Int) (wrap64 (x27_2 + 1)) a0_0 a0_1 l0_2 l0_3) = some r := H
         have A13 := Aside0.mk A130
         clear A130
         have H' := Aside0.mk H
         clear H
         have p161 : 0 ≤ (x27_2 : Int) := of_decide_eq_true as_
         have q161 : x27_2 < (l0_3.length : Int) := of_decide_eq_true as_
         obtain ⟨ad161, e161, hx161_0⟩ := Kd.at_int HR0_3.out x27_2 p161 q161
         cases e161
         replace hx161_0 := (HB.out.cell (World.block_lt_of_cell? w _ hx161_0)).trans hx161_0
         replace p161 := eq_true p161
         replace q161 := eq_true q161
         have hcz14_0 : wr.cell? ⟨gb158, 0, none⟩ = some (.int .i64 a0_0) := (blk_cell BK158.out 0).trans rfl
         have hcz14_1 : wr.cell? ⟨gb158, 1, none⟩ = some (.int .i64 a0_1) := (blk_cell BK158.out 1).trans rfl
         have hcz14_2 : wr.cell? ⟨gb158, 2, none⟩ = some (.slice A0_2 l0_2.length c0_2) := (blk_cell BK158.out 2).trans rfl
         have hcz14_3 : wr.cell? ⟨gb158, 3, none⟩ = some (.slice (some ad161) l0_3.length c0_3) := (blk_cell BK158.out 3).trans rfl
         have hfz14_0 := blk_frozen BK158.out 0
         have hfz14_1 := blk_frozen BK158.out 1
         have hfz14_2 := blk_frozen BK158.out 2
         have hfz14_3 := blk_frozen BK158.out 3
         go_wp2_with (first | ((with_reducible refine gate_callee (f := 97) rfl ?_); refine goesL_ (some 37) rfl rfl Tryd.func97 (by kernel_rfl) rfl #[.int .i64 a0_0, .int .i64 a0_1, .bool true, .int .i64 (rd l0_3 x27_2)] rfl ob_ ?_; (with_reducible refine (spec_sqBit.calls a0_0 a0_1 true (rd l0_3 x27_2) t162 _ A13.out).mono ?_); rintro e w' ⟨rfl, ⟨nd, rfl⟩⟩; refine ⟨_, rfl, ?_⟩))
         go_roundg k2
         case measure => have := HK1.out; have := HK2.out; omega
         case rel => exact ⟨(Go.bits .or .i64 x3_2 t162), (wrap64 (x27_2 + 1)), rs_, rs_, H', ⟨by have := HK1.out; have := HK2.out; omega⟩, ⟨bk_ BK158.out⟩, ⟨bl1_ HB.out GE158.out⟩⟩
        ·rw [if_neg c12] at H
         exact absurd H (by simp)
       ·rw [if_neg c11] at H
        exact absurd H (by simp)
      ·rw [if_neg c10] at H
       have c10b0 : decide (x27_2 < (l0_3.length : Int)) = false := decide_eq_false c10
       clear c10
       obtain rfl := Option.some.inj H
       go_wp2
       go_ret
       exact ⟨er_, bl1_ HB.out GE158.out⟩


theorem sqBit_f (w h : Int) (up : Bool) (n : Nat) (hw : wrap64 (w * wrap64 (h + 1)) = w * (h + 1)) (h0 : 0 ≤ w * (h + 1)) (h1 : w * (h + 1) ≤ 20) (hn : n ≤ 20) : spec_sqBit.f w h up (n : Int) = some ((2 ^ ((if up then (w * (h + 1)).toNat else 0) + n) : Nat) : Int) := by
 unfold spec_sqBit.f
 cases up with
 | false =>
  rw [if_neg (by simp), if_pos (by omega), shl_i64 n (by omega)]
  simp
 | true =>
  have e3 : wrap64 (w * (h + 1) + (n : Int)) = (((w * (h + 1)).toNat + n : Nat) : Int) := by unfold wrap64; omega
  rw [if_pos rfl, hw, e3, if_pos (by omega), shl_i64 _ (by omega)]
  rfl
theorem sqMask_l1 (w h : Int) (a u : List Int) (hL : u.length ≤ 4000000) (hw : wrap64 (w * wrap64 (h + 1)) = w * (h + 1)) (h0 : 0 ≤ w * (h + 1)) (h1 : w * (h + 1) ≤ 20) (hu : ∀ k ∈ u, 0 ≤ k ∧ k ≤ 20) : ∀ (d k i : Nat) (m : Nat), u.length - i = d → i ≤ u.length → d < k → m < 2 ^ 60 →
  spec_sqMask.l1 k (m : Int) u (u.length : Int) (i : Int) w h a u = some ((bitsFrom (w * (h + 1)).toNat (u.drop i) m : Nat) : Int) := by
 intro d
 induction d with
 | zero =>
  intro k i m h2 h3 h4 h5
  obtain ⟨k, rfl⟩ : ∃ q, k = q + 1 := ⟨k - 1, by omega⟩
  simp only [spec_sqMask.l1]
  rw [if_neg (by omega), List.drop_of_length_le (by omega)]
  rfl
 | succ d ih =>
  intro k i m h2 h3 h4 h5
  obtain ⟨k, rfl⟩ : ∃ q, k = q + 1 := ⟨k - 1, by omega⟩
  have hi : i < u.length := by omega
  have hk := hu u[i] (List.getElem_mem hi)
  have e2 : wrap64 ((i : Int) + 1) = ((i + 1 : Nat) : Int) := by unfold wrap64; omega
  have hr := rd_nat u i hi
  have hd := List.drop_eq_getElem_cons hi
  have c1 : (i : Int) < (u.length : Int) := Int.ofNat_lt.2 hi
  have c2 : (0 : Int) ≤ (i : Int) := Int.natCast_nonneg _
  have n1 : u.length - (i + 1) = d := by clear hk hr hd c1 c2 ih h5 hw h0 h1 hu; omega
  have n3 : d < k := by clear hk hr hd c1 c2 ih h5 hw h0 h1 hu; omega
  have hih := fun m hm => ih k (i + 1) m n1 hi n3 hm
  generalize u[i] = x at hk hr hd
  obtain ⟨y, rfl⟩ : ∃ y : Nat, x = (y : Int) := ⟨x.toNat, (Int.toNat_of_nonneg hk.1).symm⟩
  have hy20 : y ≤ 20 := by have := hk.2; clear hr hd c1 c2 ih h5 hw h0 h1 hu hih; omega
  have hlt : (w * (h + 1)).toNat + y < 60 := by clear hr hd c1 c2 ih h5 hw hu hih hk; omega
  simp only [spec_sqMask.l1]
  rw [if_pos c1, if_pos c2, if_pos c1, hr, sqBit_f w h true y hw h0 h1 hy20, Option.bind_some, if_pos rfl, or_i64 _ _ h5 (pow_lt60 hlt), e2, hih _ (Nat.or_lt_two_pow h5 (pow_lt60 hlt)), hd]
  unfold bitsFrom
  rw [List.foldl_cons, Int.toNat_natCast]
theorem sqMask_l0 (w h : Int) (a u : List Int) (hL : a.length ≤ 4000000) (hLu : u.length ≤ 4000000) (hw : wrap64 (w * wrap64 (h + 1)) = w * (h + 1)) (h0 : 0 ≤ w * (h + 1)) (h1 : w * (h + 1) ≤ 20) (ha : ∀ k ∈ a, 0 ≤ k ∧ k ≤ 20) (hu : ∀ k ∈ u, 0 ≤ k ∧ k ≤ 20) : ∀ (d k i : Nat) (m : Nat), a.length - i = d → i ≤ a.length → d + u.length + 2 < k → m < 2 ^ 60 →
  spec_sqMask.l0 k (m : Int) a (a.length : Int) (i : Int) w h a u = some ((bitsFrom (w * (h + 1)).toNat u (bitsFrom 0 (a.drop i) m) : Nat) : Int) := by
 intro d
 induction d with
 | zero =>
  intro k i m h2 h3 h4 h5
  obtain ⟨k, rfl⟩ : ∃ q, k = q + 1 := ⟨k - 1, by omega⟩
  simp only [spec_sqMask.l0]
  rw [if_neg (by omega), List.drop_of_length_le (by omega)]
  exact sqMask_l1 w h a u hLu hw h0 h1 hu u.length k 0 m (by omega) (by omega) (by omega) h5
 | succ d ih =>
  intro k i m h2 h3 h4 h5
  obtain ⟨k, rfl⟩ : ∃ q, k = q + 1 := ⟨k - 1, by omega⟩
  have hi : i < a.length := by omega
  have hk := ha a[i] (List.getElem_mem hi)
  have e2 : wrap64 ((i : Int) + 1) = ((i + 1 : Nat) : Int) := by unfold wrap64; omega
  have hr := rd_nat a i hi
  have hd := List.drop_eq_getElem_cons hi
  have c1 : (i : Int) < (a.length : Int) := Int.ofNat_lt.2 hi
  have c2 : (0 : Int) ≤ (i : Int) := Int.natCast_nonneg _
  have n1 : a.length - (i + 1) = d := by clear hk hr hd c1 c2 ih h5 hw h0 h1 hu ha; omega
  have n3 : d + u.length + 2 < k := by clear hk hr hd c1 c2 ih h5 hw h0 h1 hu ha; omega
  have hih := fun m hm => ih k (i + 1) m n1 hi n3 hm
  generalize a[i] = x at hk hr hd
  obtain ⟨y, rfl⟩ : ∃ y : Nat, x = (y : Int) := ⟨x.toNat, (Int.toNat_of_nonneg hk.1).symm⟩
  have hlt : 0 + y < 60 := by have := hk.2; clear hr hd c1 c2 ih h5 hw h0 h1 hu ha hih; omega
  have hy20 : y ≤ 20 := by have := hk.2; clear hr hd c1 c2 ih h5 hw h0 h1 hu ha hih; omega
  simp only [spec_sqMask.l0]
  rw [if_pos c1, if_pos c2, if_pos c1, hr, sqBit_f w h false y hw h0 h1 hy20, Option.bind_some, if_neg (by simp), or_i64 _ _ h5 (pow_lt60 hlt), e2, hih _ (Nat.or_lt_two_pow h5 (pow_lt60 hlt)), hd]
  unfold bitsFrom
  rw [List.foldl_cons, Int.toNat_natCast]
theorem sqMask_f {w h : Int} {a u : List Int} (hf : figB w h a u = true) (ha : a.length ≤ 1000000) (hu : u.length ≤ 1000000) (k : Nat) (hk : 2000010 < k) : spec_sqMask.f k w h a u = some ((figMask w h a u : Nat) : Int) := by
 unfold figB at hf
 simp only [Bool.and_eq_true] at hf
 obtain ⟨hg, -, -, hi1, hi2⟩ := hf
 obtain ⟨b1, b2, b3, b4⟩ := grid_bounds (by simp only [Bool.and_eq_true]; exact hg)
 obtain ⟨c1, c2, c3, c4⟩ := area_bounds b1 b2 b3 b4
 have e1 : wrap64 (h + 1) = h + 1 := by unfold wrap64; omega
 have e3 : wrap64 (w * (h + 1)) = w * (h + 1) := by unfold wrap64; omega
 unfold spec_sqMask.f figMask
 have q := sqMask_l0 w h a u (by omega) (by omega) (by rw [e1, e3]) (by omega) (by omega) (fun k hk => by have := inB_mem hi1 k hk; omega) (fun k hk => by have := inB_mem hi2 k hk; omega) a.length k 0 0 (by omega) (by omega) (by clear hi1 hi2; omega) (by decide)
 rw [List.drop_zero] at q
 exact q
def sqsSame (w h : Nat) : Bool :=
 match impl_grid_squares.f 200 (w : Int) (h : Int), spec_sqAll.f 200 (w : Int) (h : Int) with
 | some L, some PL => (L.map (fun q => q.f3) == PL.map (fun q => q.f3)) && L.all (fun q => decide (0 ≤ q.f3) && decide (q.f3 < 2 ^ 60)) && decide (L.length ≤ 30)
 | _, _ => false
theorem sqs_11 : sqsSame 1 1 = true := by decide +kernel
theorem sqs_12 : sqsSame 1 2 = true := by decide +kernel
theorem sqs_13 : sqsSame 1 3 = true := by decide +kernel
theorem sqs_14 : sqsSame 1 4 = true := by decide +kernel
theorem sqs_21 : sqsSame 2 1 = true := by decide +kernel
theorem sqs_22 : sqsSame 2 2 = true := by decide +kernel
theorem sqs_23 : sqsSame 2 3 = true := by decide +kernel
theorem sqs_24 : sqsSame 2 4 = true := by decide +kernel
theorem sqs_31 : sqsSame 3 1 = true := by decide +kernel
theorem sqs_32 : sqsSame 3 2 = true := by decide +kernel
theorem sqs_33 : sqsSame 3 3 = true := by decide +kernel
theorem sqs_34 : sqsSame 3 4 = true := by decide +kernel
theorem sqs_41 : sqsSame 4 1 = true := by decide +kernel
theorem sqs_42 : sqsSame 4 2 = true := by decide +kernel
theorem sqs_43 : sqsSame 4 3 = true := by decide +kernel
theorem sqs_44 : sqsSame 4 4 = true := by decide +kernel
theorem sqs_all (w h : Nat) (h1 : 1 ≤ w) (h2 : w ≤ 4) (h3 : 1 ≤ h) (h4 : h ≤ 4) : sqsSame w h = true := by
 have hw : w = 1 ∨ w = 2 ∨ w = 3 ∨ w = 4 := by omega
 have hh : h = 1 ∨ h = 2 ∨ h = 3 ∨ h = 4 := by omega
 rcases hw with rfl | rfl | rfl | rfl <;> rcases hh with rfl | rfl | rfl | rfl
 ·exact sqs_11
 ·exact sqs_12
 ·exact sqs_13
 ·exact sqs_14
 ·exact sqs_21
 ·exact sqs_22
 ·exact sqs_23
 ·exact sqs_24
 ·exact sqs_31
 ·exact sqs_32
 ·exact sqs_33
 ·exact sqs_34
 ·exact sqs_41
 ·exact sqs_42
 ·exact sqs_43
 ·exact sqs_44
theorem nat_of_list {α : Type} (f : α → Int) : ∀ l : List α, (∀ q ∈ l, 0 ≤ f q ∧ f q < 2 ^ 60) → ∃ E : List Nat, l.map f = E.map (fun n : Nat => (n : Int)) ∧ ∀ e ∈ E, e < 2 ^ 60
 | [], _ => ⟨[], rfl, fun _ h => by cases h⟩
 | x :: l, h => by
  obtain ⟨E, h1, h2⟩ := nat_of_list f l (fun q hq => h q (List.mem_cons_of_mem _ hq))
  obtain ⟨h3, h4⟩ := h x List.mem_cons_self
  refine ⟨(f x).toNat :: E, ?_, fun e he => ?_⟩
  ·rw [List.map_cons, List.map_cons, h1, Int.toNat_of_nonneg h3]
  ·rcases List.mem_cons.1 he with rfl | he
   ·omega
   ·exact h2 e he
theorem squares_f {w h : Int} (h1 : 1 ≤ w) (h2 : w ≤ 4) (h3 : 1 ≤ h) (h4 : h ≤ 4) (k : Nat) (hk : 200 ≤ k) : ∃ (L : List S118) (PL : List S122) (E : List Nat), impl_grid_squares.f k w h = some L ∧ spec_sqAll.f k w h = some PL ∧ L.map (fun q => q.f3) = E.map (fun n : Nat => (n : Int)) ∧ PL.map (fun q => q.f3) = E.map (fun n : Nat => (n : Int)) ∧ (∀ e ∈ E, e < 2 ^ 60) ∧ L.length ≤ 30 := by
 obtain ⟨w, rfl⟩ := Int.eq_ofNat_of_zero_le (show 0 ≤ w by omega)
 obtain ⟨h, rfl⟩ := Int.eq_ofNat_of_zero_le (show 0 ≤ h by omega)
 have hs : sqsSame w h = true := sqs_all w h (by omega) (by omega) (by omega) (by omega)
 unfold sqsSame at hs
 cases hL : impl_grid_squares.f 200 (w : Int) (h : Int) with
 | none => rw [hL] at hs; cases hs
 | some L =>
  cases hP : spec_sqAll.f 200 (w : Int) (h : Int) with
  | none => rw [hL, hP] at hs; cases hs
  | some PL =>
   rw [hL, hP] at hs
   simp only [Bool.and_eq_true, beq_iff_eq, decide_eq_true_eq] at hs
   obtain ⟨⟨e1, e2⟩, e3⟩ := hs
   obtain ⟨E, e4, e5⟩ := nat_of_list (fun q : S118 => q.f3) L (fun q hq => by
    have := List.all_eq_true.1 e2 q hq
    simpa using this)
   exact ⟨L, PL, E, up_rounds (fun k => impl_grid_squares.mono _ _ k) hk hL, up_rounds (fun k => spec_sqAll.mono _ _ k) hk hP, e4, by rw [← e1, e4], e5, e3⟩
def subE (e x : Nat) : Bool := diffN e x == 0
theorem subE_test {e x : Nat} : subE e x = true ↔ ∀ i, e.testBit i = true → x.testBit i = true := by
 unfold subE
 rw [beq_iff_eq]
 constructor
 ·intro h i hi
  have h2 := diffN_test e x i
  rw [h, hi] at h2
  simpa using h2.symm
 ·intro h
  apply Nat.eq_of_testBit_eq
  intro i
  rw [diffN_test, Nat.zero_testBit]
  cases hi : e.testBit i with
  | false => rfl
  | true => rw [h i hi]; rfl
theorem subE_and (e x : Nat) : subE e x = true ↔ x &&& e = e := by
 rw [subE_test]
 constructor
 ·intro h
  apply Nat.eq_of_testBit_eq
  intro i
  rw [Nat.testBit_and]
  cases hi : e.testBit i with
  | false => simp
  | true => rw [h i hi]; rfl
 ·intro h i hi
  have h2 := congrArg (fun n => n.testBit i) h
  simp only [Nat.testBit_and, hi, Bool.and_true] at h2
  exact h2
theorem map_at {α : Type} {f : α → Int} {L : List α} {E : List Nat} (h : L.map f = E.map (fun n : Nat => (n : Int))) (d : α) (i : Nat) (hi : i < E.length) : i < L.length ∧ f (L.getD i d) = ((E[i] : Nat) : Int) := by
 have hl : L.length = E.length := by have := congrArg List.length h; simpa using this
 refine ⟨by omega, ?_⟩
 have h2 := congrArg (fun l => l[i]?) h
 simp only [List.getElem?_map] at h2
 rw [List.getElem?_eq_getElem (show i < L.length by omega), List.getElem?_eq_getElem hi] at h2
 rw [List.getD_eq_getElem?_getD, List.getElem?_eq_getElem (show i < L.length by omega)]
 simpa using h2
theorem filter_map {α : Type} (f : α → Int) (p : Int → Bool) (q : Nat → Bool) : ∀ (L : List α) (E : List Nat), L.map f = E.map (fun n : Nat => (n : Int)) → (∀ e ∈ E, p ((e : Nat) : Int) = q e) → (L.filter fun x => p (f x)).map f = (E.filter q).map (fun n : Nat => (n : Int))
 | [], [], _, _ => rfl
 | [], e :: E, h, _ => by cases h
 | x :: L, [], h, _ => by cases h
 | x :: L, e :: E, h, hp => by
  rw [List.map_cons, List.map_cons] at h
  injection h with h1 h2
  have ih := filter_map f p q L E h2 (fun e he => hp e (List.mem_cons_of_mem _ he))
  have h3 : p (f x) = q e := by rw [h1]; exact hp e List.mem_cons_self
  by_cases hq : q e = true
  ·rw [List.filter_cons_of_pos (p := fun x => p (f x)) (h3.trans hq), List.filter_cons_of_pos hq, List.map_cons, List.map_cons, ih, h1]
  ·rw [List.filter_cons_of_neg (p := fun x => p (f x)) (by rw [h3]; exact hq), List.filter_cons_of_neg hq, ih]
theorem of_f {L : List S118} {E : List Nat} (h : L.map (fun q => q.f3) = E.map (fun n : Nat => (n : Int))) (hE : ∀ e ∈ E, e < 2 ^ 60) (hl : L.length ≤ 30) (x : Nat) (hx : x < 2 ^ 60) : ∃ L', impl_of.f L (x : Int) = some L' ∧ L'.map (fun q => q.f3) = (E.filter fun e => subE e x).map (fun n : Nat => (n : Int)) ∧ L' = L.filter (ofP (x : Int)) := by
 refine ⟨L.filter (ofP (x : Int)), ?_, ?_, rfl⟩
 ·unfold impl_of.f
  rw [if_pos (Nat.le_trans hl (by decide))]
 ·have := filter_map (fun q : S118 => q.f3) (fun y => Go.bits .andNot .u64 y (x : Int) == 0) (fun e => subE e x) L E h (fun e he => by
   rw [andNot_u64 _ _ (hE e he) hx]
   unfold subE
   rw [Bool.eq_iff_iff, beq_iff_eq, beq_iff_eq]
   exact ⟨fun h => by exact_mod_cast h, fun h => by rw [h]; rfl⟩)
  exact this


mutual
def spec_sqHit.l0 : Nat → List (S122) → Int → Int → List (S122) → Int → Int → Option (Bool)
 | 0, _, _, _, _, _, _ => none
 | k + 1, x0, x1, x2, x10, x11, x12 => if x12 < x11 then (if 0 ≤ x12 then (if x12 < (x10.length : Int) then (if (Go.bits .and .i64 x1 ((rd_T122 x10 x12).f3)) = ((rd_T122 x10 x12).f3) then (if x2 = 0 then (some false) else (spec_sqHit.l1 k x0 x1 x2 ((rd_T122 x10 x12).f3))) else (spec_sqHit.l0 k x0 x1 x2 x10 x11 (wrap64 (x12 + 1)))) else (none)) else (none)) else (some true)
def spec_sqHit.l1 : Nat → List (S122) → Int → Int → Int → Option (Bool)
 | 0, _, _, _, _ => none
 | k + 1, x0, x1, x2, x9 => if x9 = 0 then (some false) else ((spec_sqHit.f k x0 (Go.bits .andNot .i64 x1 (Go.bits .and .i64 x9 (wrap64 (-x9)))) (wrap64 (x2 - 1))).bind fun t148 => (if t148 = true then (some true) else (spec_sqHit.l1 k x0 x1 x2 (Go.bits .and .i64 x9 (wrap64 (x9 - 1))))))
def spec_sqHit.f : Nat → List (S122) → Int → Int → Option (Bool)
 | 0, _, _, _ => none
 | k + 1, l0, a1, a2 => spec_sqHit.l0 k l0 a1 a2 l0 (l0.length : Int) 0
end
theorem spec_sqHit.mono_l : ∀ k, (∀ y0 y1 y2, LeO (spec_sqHit.f k y0 y1 y2) (spec_sqHit.f (k + 1) y0 y1 y2)) ∧ (∀ y0 y1 y2 y3 y4 y5, LeO (spec_sqHit.l0 k y0 y1 y2 y3 y4 y5) (spec_sqHit.l0 (k + 1) y0 y1 y2 y3 y4 y5)) ∧ (∀ y0 y1 y2 y3, LeO (spec_sqHit.l1 k y0 y1 y2 y3) (spec_sqHit.l1 (k + 1) y0 y1 y2 y3))
 | 0 => ⟨fun _ _ _ r h => by simp [spec_sqHit.f] at h, fun _ _ _ _ _ _ r h => by simp [spec_sqHit.l0] at h, fun _ _ _ _ r h => by simp [spec_sqHit.l1] at h⟩
 | k + 1 => by
  obtain ⟨ih0, ih1, ih2⟩ := spec_sqHit.mono_l k
  refine ⟨?_, ?_, ?_⟩
  ·intro y0 y1 y2
   unfold spec_sqHit.f
   repeat' first
   | (with_reducible exact ih0 _ _ _)
   | (with_reducible exact ih1 _ _ _ _ _ _)
   | (with_reducible exact ih2 _ _ _ _)
   | (with_reducible exact LeO.refl _)
   | (with_reducible exact LeO.none _)
   | (with_reducible refine LeO.ite ?_ ?_)
   | (with_reducible refine LeO.bind ?_ (fun _ => ?_))
   | exact ih0 _ _ _
   | exact ih1 _ _ _ _ _ _
   | exact ih2 _ _ _ _
   | exact LeO.none _
   | refine LeO.ite ?_ ?_
   | refine LeO.bind ?_ (fun _ => ?_)
  ·intro y0 y1 y2 y3 y4 y5
   unfold spec_sqHit.l0
   repeat' first
   | (with_reducible exact ih0 _ _ _)
   | (with_reducible exact ih1 _ _ _ _ _ _)
   | (with_reducible exact ih2 _ _ _ _)
   | (with_reducible exact LeO.refl _)
   | (with_reducible exact LeO.none _)
   | (with_reducible refine LeO.ite ?_ ?_)
   | (with_reducible refine LeO.bind ?_ (fun _ => ?_))
   | exact ih0 _ _ _
   | exact ih1 _ _ _ _ _ _
   | exact ih2 _ _ _ _
   | exact LeO.none _
   | refine LeO.ite ?_ ?_
   | refine LeO.bind ?_ (fun _ => ?_)
  ·intro y0 y1 y2 y3
   unfold spec_sqHit.l1
   repeat' first
   | (with_reducible exact ih0 _ _ _)
   | (with_reducible exact ih1 _ _ _ _ _ _)
   | (with_reducible exact ih2 _ _ _ _)
   | (with_reducible exact LeO.refl _)
   | (with_reducible exact LeO.none _)
   | (with_reducible refine LeO.ite ?_ ?_)
   | (with_reducible refine LeO.bind ?_ (fun _ => ?_))
   | exact ih0 _ _ _
   | exact ih1 _ _ _ _ _ _
   | exact ih2 _ _ _ _
   | exact LeO.none _
   | refine LeO.ite ?_ ?_
   | refine LeO.bind ?_ (fun _ => ?_)
theorem spec_sqHit.mono : ∀ a0 a1 a2 k, LeO (spec_sqHit.f k a0 a1 a2) (spec_sqHit.f (k + 1) a0 a1 a2) := by
 intro a0 a1 a2 k
 obtain ⟨ih0, ih1, ih2⟩ := spec_sqHit.mono_l k
 exact ih0 a0 a1 a2
set_option maxHeartbeats 8000000 in
set_option maxRecDepth 100000 in
theorem spec_sqHit.calls (k : Nat) : ∀ (A0 : Option Addr) (c0 : Nat) (l0 : List (S122)) (a1 : Int) (a2 : Int) (r : Bool) (w : World) (hr0 : Kd.C k122 w A0 l0.length l0) (hc0 : l0.length ≤ c0) (h : spec_sqHit.f k l0 a1 a2 = some r),
  Calls Tryd.prog 95 #[.slice A0 l0.length c0, .int .i64 a1, .int .i64 a2] w fun e w' => e = .returned (.bool r) ∧ Below w.heap.size w w' := by
 induction k using Nat.strongRecOn with
 | _ k ih =>
 intro A0 c0 l0 a1 a2 r w hr0 hc0 h
 cases k with
 | zero => exact absurd h (by simp [spec_sqHit.f])
 | succ k =>
 simp only [spec_sqHit.f] at h
 have hu122 := Tryd.underlying122
 have HR0 := Aside0.mk hr0
 have HC0 := Aside0.mk hc0
 clear hr0 hc0
 have HB := Aside0.mk (Below.refl w.heap.size w)
 have H : (spec_sqHit.l0 k l0 a1 a2 l0 (l0.length : Int) 0) = some r := h
 clear h
 have H' := Aside0.mk H
 clear H
 go_enter Tryd.func95, Tryd.ntmps95
 go_wp2
 go_loopg [12] k (fun kq v12 w' => ∃ (x12_1 : Int), v12 = .int .i64 x12_1 ∧ Aside0 (spec_sqHit.l0 kq l0 a1 a2 l0 (l0.length : Int) x12_1 = some r) ∧ Aside0 (kq ≤ k) ∧ Aside0 (Below w.heap.size w w'))
 case atStart => exact ⟨(0), rs_, H', ⟨Nat.le_refl _⟩, ⟨bl0_ HB.out⟩⟩
 case round =>
  clear H'
  try clear p2
  obtain ⟨x12_1, rfl, HA, HK1, HB⟩ := hrel
  cases gk with
  | zero => exact absurd HA.out (by simp [spec_sqHit.l0])
  | succ k1 =>
   have H := HA.out
   clear HA
   simp only [spec_sqHit.l0] at H
   by_cases c4 : x12_1 < (l0.length : Int)
   ·rw [if_pos c4] at H
    have c4b0 : decide (x12_1 < (l0.length : Int)) = true := decide_eq_true c4
    clear c4
    by_cases c5 : 0 ≤ x12_1
    ·rw [if_pos c5] at H
     have c5b0 : decide (0 ≤ x12_1) = true := decide_eq_true c5
     clear c5
     by_cases c6 : x12_1 < (l0.length : Int)
     ·rw [if_pos c6] at H
      have c6b0 : decide (x12_1 < (l0.length : Int)) = true := decide_eq_true c6
      clear c6
      by_cases c7 : (Go.bits .and .i64 a1 ((rd_T122 l0 x12_1).f3)) = ((rd_T122 l0 x12_1).f3)
      ·rw [if_pos c7] at H
       have c7b0 : ((Go.bits .and .i64 a1 ((rd_T122 l0 x12_1).f3)) == ((rd_T122 l0 x12_1).f3)) = true := beq_iff_eq.mpr c7
       have c7b1 : ((Go.bits .and .i64 a1 ((rd_T122 l0 x12_1).f3)) != ((rd_T122 l0 x12_1).f3)) = false := bne_eq_false_iff_eq.mpr c7
       clear c7
       by_cases c8 : a2 = 0
       ·rw [if_pos c8] at H
        have c8b0 : (a2 == 0) = true := beq_iff_eq.mpr c8
        have c8b1 : (a2 != 0) = false := bne_eq_false_iff_eq.mpr c8
        clear c8
        obtain rfl := Option.some.inj H
        have p146 : 0 ≤ (x12_1 : Int) := of_decide_eq_true as_
        have q146 : x12_1 < (l0.length : Int) := of_decide_eq_true as_
        obtain ⟨ad146, e146, hx146_0, hx146_1, hx146_2, hx146_3⟩ := at_T122 HR0.out x12_1 p146 q146
        cases e146
        replace hx146_0 := (HB.out.cell (World.block_lt_of_cell? w _ hx146_0)).trans hx146_0
        replace hx146_1 := (HB.out.cell (World.block_lt_of_cell? w _ hx146_1)).trans hx146_1
        replace hx146_2 := (HB.out.cell (World.block_lt_of_cell? w _ hx146_2)).trans hx146_2
        replace hx146_3 := (HB.out.cell (World.block_lt_of_cell? w _ hx146_3)).trans hx146_3
        replace p146 := eq_true p146
        replace q146 := eq_true q146
        go_wp2_with (first | ((with_reducible refine gate_dst (N := 8) rfl ?_); refine boxE_ (N := 8) (cs := #[.int .i64 0, .int .i64 0, .int .i64 0, .int .i64 0]) (t := 122) ?_; intro gb147 hg w9 hbox hb; have n0_ := Aside0.mk (below_step (bl0_ HB.out) hb); have n1_ := Aside0.mk (hbox); have n2_ := Aside0.mk ((bs0_ hg HB.out : w.heap.size ≤ gb147)); have n3_ := Aside0.mk ((bs0_ hg HB.out : w.heap.size ≤ gb147)); clear HB; have HB := n0_; have BK147 := n1_; have GW147 := n2_; have GE147 := n3_; clear n0_ n1_ n2_ n3_; clear hb hbox hg; have hcz10_0 : w9.cell? ⟨gb147, 0, none⟩ = some (.int .i64 0) := (blk_cell BK147.out 0).trans rfl; have hcz10_1 : w9.cell? ⟨gb147, 1, none⟩ = some (.int .i64 0) := (blk_cell BK147.out 1).trans rfl; have hcz10_2 : w9.cell? ⟨gb147, 2, none⟩ = some (.int .i64 0) := (blk_cell BK147.out 2).trans rfl; have hcz10_3 : w9.cell? ⟨gb147, 3, none⟩ = some (.int .i64 0) := (blk_cell BK147.out 3).trans rfl; have hfz10_0 := blk_frozen BK147.out 0; have hfz10_1 := blk_frozen BK147.out 1; have hfz10_2 := blk_frozen BK147.out 2; have hfz10_3 := blk_frozen BK147.out 3))
        go_ret
        exact ⟨er_, bl1_ HB.out GE147.out⟩
       ·rw [if_neg c8] at H
        have c8b0 : (a2 == 0) = false := beq_eq_false_iff_ne.mpr c8
        have c8b1 : (a2 != 0) = true := bne_iff_ne.mpr c8
        have H' := Aside0.mk H
        clear H
        have p146 : 0 ≤ (x12_1 : Int) := of_decide_eq_true as_
        have q146 : x12_1 < (l0.length : Int) := of_decide_eq_true as_
        obtain ⟨ad146, e146, hx146_0, hx146_1, hx146_2, hx146_3⟩ := at_T122 HR0.out x12_1 p146 q146
        cases e146
        replace hx146_0 := (HB.out.cell (World.block_lt_of_cell? w _ hx146_0)).trans hx146_0
        replace hx146_1 := (HB.out.cell (World.block_lt_of_cell? w _ hx146_1)).trans hx146_1
        replace hx146_2 := (HB.out.cell (World.block_lt_of_cell? w _ hx146_2)).trans hx146_2
        replace hx146_3 := (HB.out.cell (World.block_lt_of_cell? w _ hx146_3)).trans hx146_3
        replace p146 := eq_true p146
        replace q146 := eq_true q146
        go_wp2_with (first | ((with_reducible refine gate_dst (N := 8) rfl ?_); refine boxE_ (N := 8) (cs := #[.int .i64 0, .int .i64 0, .int .i64 0, .int .i64 0]) (t := 122) ?_; intro gb147 hg w11 hbox hb; have n0_ := Aside0.mk (below_step (bl0_ HB.out) hb); have n1_ := Aside0.mk (hbox); have n2_ := Aside0.mk ((bs0_ hg HB.out : w.heap.size ≤ gb147)); have n3_ := Aside0.mk ((bs0_ hg HB.out : w.heap.size ≤ gb147)); clear HB; have HB := n0_; have BK147 := n1_; have GW147 := n2_; have GE147 := n3_; clear n0_ n1_ n2_ n3_; clear hb hbox hg; have hcz12_0 : w11.cell? ⟨gb147, 0, none⟩ = some (.int .i64 0) := (blk_cell BK147.out 0).trans rfl; have hcz12_1 : w11.cell? ⟨gb147, 1, none⟩ = some (.int .i64 0) := (blk_cell BK147.out 1).trans rfl; have hcz12_2 : w11.cell? ⟨gb147, 2, none⟩ = some (.int .i64 0) := (blk_cell BK147.out 2).trans rfl; have hcz12_3 : w11.cell? ⟨gb147, 3, none⟩ = some (.int .i64 0) := (blk_cell BK147.out 3).trans rfl; have hfz12_0 := blk_frozen BK147.out 0; have hfz12_1 := blk_frozen BK147.out 1; have hfz12_2 := blk_frozen BK147.out 2; have hfz12_3 := blk_frozen BK147.out 3))
        go_loopg [9] k1 (fun kq v9 w' => ∃ (x9_2 : Int), v9 = .int .i64 x9_2 ∧ Aside0 (spec_sqHit.l1 kq l0 a1 a2 x9_2 = some r) ∧ Aside0 (kq ≤ k1) ∧ Aside0 (w'.heap[gb147]? = some (.cells #[.int .i64 ((rd_T122 l0 x12_1).f0), .int .i64 ((rd_T122 l0 x12_1).f1), .int .i64 ((rd_T122 l0 x12_1).f2), .int .i64 ((rd_T122 l0 x12_1).f3)] 122 (0, 0))) ∧ Aside0 (Below w.heap.size w w'))
        case atStart => exact ⟨((rd_T122 l0 x12_1).f3), rs_, H', ⟨Nat.le_refl _⟩, ⟨by (with_reducible repeat (first | refine blk_drewN ?_ _ | refine blk_drew ?_ | refine blk_alloc ?_ _)); refine blk_put (cs := #[.int .i64 ((rd_T122 l0 x12_1).f0), .int .i64 ((rd_T122 l0 x12_1).f1), .int .i64 ((rd_T122 l0 x12_1).f2), .int .i64 0]) ?_ 3 _ rfl; (with_reducible repeat (first | refine blk_drewN ?_ _ | refine blk_drew ?_ | refine blk_alloc ?_ _)); refine blk_put (cs := #[.int .i64 ((rd_T122 l0 x12_1).f0), .int .i64 ((rd_T122 l0 x12_1).f1), .int .i64 0, .int .i64 0]) ?_ 2 _ rfl; (with_reducible repeat (first | refine blk_drewN ?_ _ | refine blk_drew ?_ | refine blk_alloc ?_ _)); refine blk_put (cs := #[.int .i64 ((rd_T122 l0 x12_1).f0), .int .i64 0, .int .i64 0, .int .i64 0]) ?_ 1 _ rfl; (with_reducible repeat (first | refine blk_drewN ?_ _ | refine blk_drew ?_ | refine blk_alloc ?_ _)); refine blk_put (cs := #[.int .i64 0, .int .i64 0, .int .i64 0, .int .i64 0]) ?_ 0 _ rfl; (with_reducible repeat (first | refine blk_drewN ?_ _ | refine blk_drew ?_ | refine blk_alloc ?_ _)); exact BK147.out⟩, ⟨bl1_ HB.out GE147.out⟩⟩
        case round =>
         clear H'
         try clear p1
         try clear q1
         try clear hx1
         try clear p2
         try clear c4
         try clear c4b0
         try clear c5
         try clear c5b0
         try clear c6
         try clear c6b0
         try clear c7
         try clear c7b0
         try clear c7b1
         try clear c8
         try clear c8b0
         try clear c8b1
         try clear c9
         try clear hcz10_0
         try clear hcz10_1
         try clear hcz10_2
         try clear hcz10_3
         try clear hcz12_0
         try clear hcz12_1
         try clear hcz12_2
         try clear hcz12_3
         try clear hfz10_0
         try clear hfz10_1
         try clear hfz10_2
         try clear hfz10_3
         try clear hfz12_0
         try clear hfz12_1
         try clear hfz12_2
         try clear hfz12_3
         try clear hx146_0
         try clear hx146_1
         try clear hx146_2
         try clear hx146_3
         try clear p146
         try clear p2
         try clear q146
         obtain ⟨x9_2, rfl, HA, HK2, BK147, HB⟩ := hrel
         cases gk with
         | zero => exact absurd HA.out (by simp [spec_sqHit.l1])
         | succ k2 =>
          have H := HA.out
          clear HA
          simp only [spec_sqHit.l1] at H
          by_cases c13 : x9_2 = 0
          ·rw [if_pos c13] at H
           have c13b0 : (x9_2 == 0) = true := beq_iff_eq.mpr c13
           have c13b1 : (x9_2 != 0) = false := bne_eq_false_iff_eq.mpr c13
           clear c13
           obtain rfl := Option.some.inj H
           go_wp2
           go_ret
           exact ⟨er_, bl1_ HB.out GE147.out⟩
          ·rw [if_neg c13] at H
           have c13b0 : (x9_2 == 0) = false := beq_eq_false_iff_ne.mpr c13
           have c13b1 : (x9_2 != 0) = true := bne_iff_ne.mpr c13
           replace H := Option.bind_eq_some_iff.mp H
           obtain ⟨t148, A140, H⟩ := H
           replace H : (if t148 = true then (some true) else (spec_sqHit.l1 k2 l0 a1 a2 (Go.bits .and .i64 x9_2 (wrap64 (x9_2 - 1))))) = some r := H
           have A14 := Aside0.mk A140
           clear A140
           by_cases c15 : t148 = true
           ·subst c15
            have H1 : (some true) = some r := by rw [if_pos rfl] at H; exact H
            clear H
            have H := H1
            clear H1
            obtain rfl := Option.some.inj H
            go_wp2_with (first | ((with_reducible refine gate_callee (f := 95) rfl ?_); refine goesL_ (some 42) rfl rfl Tryd.func95 (by kernel_rfl) rfl #[.slice (some ad146) l0.length c0, .int .i64 (Go.bits .andNot .i64 a1 (Go.bits .and .i64 x9_2 (wrap64 (-x9_2)))), .int .i64 (wrap64 (a2 - 1))] rfl ob_ ?_; (with_reducible refine (ih k2 (by have := HK1.out; have := HK2.out; omega) _ _ l0 (Go.bits .andNot .i64 a1 (Go.bits .and .i64 x9_2 (wrap64 (-x9_2)))) (wrap64 (a2 - 1)) true _ ?side1 ?side2 A14.out).mono ?_); (case side1 => exact kc_ (Kd.C_below HR0.out HB.out)); (case side2 => exact HC0.out); rintro e w16 ⟨rfl, hb⟩; refine ⟨_, rfl, ?_⟩; have n0_ := Aside0.mk (bb_ BK147.out hb); have n1_ := Aside0.mk (below_step (bl1_ HB.out GE147.out) hb); clear BK147; clear HB; have BK147 := n0_; have HB := n1_; clear n0_ n1_; (try clear hb); (try clear hb2); (try clear hk); (try clear hi)))
            go_ret
            exact ⟨er_, bl1_ HB.out GE147.out⟩
           ·replace c15 := Bool.eq_false_iff.mpr c15
            subst c15
            have H1 : (spec_sqHit.l1 k2 l0 a1 a2 (Go.bits .and .i64 x9_2 (wrap64 (x9_2 - 1)))) = some r := by rw [if_neg (show ¬ (false = true) by decide)] at H; exact H
            clear H
            have H := H1
            clear H1
            have H' := Aside0.mk H
            clear H
            go_wp2_with (first | ((with_reducible refine gate_callee (f := 95) rfl ?_); refine goesL_ (some 42) rfl rfl Tryd.func95 (by kernel_rfl) rfl #[.slice (some ad146) l0.length c0, .int .i64 (Go.bits .andNot .i64 a1 (Go.bits .and .i64 x9_2 (wrap64 (-x9_2)))), .int .i64 (wrap64 (a2 - 1))] rfl ob_ ?_; (with_reducible refine (ih k2 (by have := HK1.out; have := HK2.out; omega) _ _ l0 (Go.bits .andNot .i64 a1 (Go.bits .and .i64 x9_2 (wrap64 (-x9_2)))) (wrap64 (a2 - 1)) false _ ?side1 ?side2 A14.out).mono ?_); (case side1 => exact kc_ (Kd.C_below HR0.out HB.out)); (case side2 => exact HC0.out); rintro e w17 ⟨rfl, hb⟩; refine ⟨_, rfl, ?_⟩; have n0_ := Aside0.mk (bb_ BK147.out hb); have n1_ := Aside0.mk (below_step (bl1_ HB.out GE147.out) hb); clear BK147; clear HB; have BK147 := n0_; have HB := n1_; clear n0_ n1_; (try clear hb); (try clear hb2); (try clear hk); (try clear hi)))
            go_roundg k2
            case measure => have := HK1.out; have := HK2.out; omega
            case rel => exact ⟨(Go.bits .and .i64 x9_2 (wrap64 (x9_2 - 1))), rs_, H', ⟨by have := HK1.out; have := HK2.out; omega⟩, ⟨bk_ BK147.out⟩, ⟨bl1_ HB.out GE147.out⟩⟩
      ·rw [if_neg c7] at H
       have c7b0 : ((Go.bits .and .i64 a1 ((rd_T122 l0 x12_1).f3)) == ((rd_T122 l0 x12_1).f3)) = false := beq_eq_false_iff_ne.mpr c7
       have c7b1 : ((Go.bits .and .i64 a1 ((rd_T122 l0 x12_1).f3)) != ((rd_T122 l0 x12_1).f3)) = true := bne_iff_ne.mpr c7
       have H' := Aside0.mk H
       clear H
       have p146 : 0 ≤ (x12_1 : Int) := of_decide_eq_true as_
       have q146 : x12_1 < (l0.length : Int) := of_decide_eq_true as_
       obtain ⟨ad146, e146, hx146_0, hx146_1, hx146_2, hx146_3⟩ := at_T122 HR0.out x12_1 p146 q146
       cases e146
       replace hx146_0 := (HB.out.cell (World.block_lt_of_cell? w _ hx146_0)).trans hx146_0
       replace hx146_1 := (HB.out.cell (World.block_lt_of_cell? w _ hx146_1)).trans hx146_1
       replace hx146_2 := (HB.out.cell (World.block_lt_of_cell? w _ hx146_2)).trans hx146_2
       replace hx146_3 := (HB.out.cell (World.block_lt_of_cell? w _ hx146_3)).trans hx146_3
       replace p146 := eq_true p146
       replace q146 := eq_true q146
       go_wp2_with (first | ((with_reducible refine gate_dst (N := 8) rfl ?_); refine boxE_ (N := 8) (cs := #[.int .i64 0, .int .i64 0, .int .i64 0, .int .i64 0]) (t := 122) ?_; intro gb147 hg w18 hbox hb; have n0_ := Aside0.mk (below_step (bl0_ HB.out) hb); have n1_ := Aside0.mk (hbox); have n2_ := Aside0.mk ((bs0_ hg HB.out : w.heap.size ≤ gb147)); have n3_ := Aside0.mk ((bs0_ hg HB.out : w.heap.size ≤ gb147)); clear HB; have HB := n0_; have BK147 := n1_; have GW147 := n2_; have GE147 := n3_; clear n0_ n1_ n2_ n3_; clear hb hbox hg; have hcz19_0 : w18.cell? ⟨gb147, 0, none⟩ = some (.int .i64 0) := (blk_cell BK147.out 0).trans rfl; have hcz19_1 : w18.cell? ⟨gb147, 1, none⟩ = some (.int .i64 0) := (blk_cell BK147.out 1).trans rfl; have hcz19_2 : w18.cell? ⟨gb147, 2, none⟩ = some (.int .i64 0) := (blk_cell BK147.out 2).trans rfl; have hcz19_3 : w18.cell? ⟨gb147, 3, none⟩ = some (.int .i64 0) := (blk_cell BK147.out 3).trans rfl; have hfz19_0 := blk_frozen BK147.out 0; have hfz19_1 := blk_frozen BK147.out 1; have hfz19_2 := blk_frozen BK147.out 2; have hfz19_3 := blk_frozen BK147.out 3))
       go_roundg k1
       case measure => have := HK1.out; omega
       case rel => exact ⟨(wrap64 (x12_1 + 1)), rs_, H', ⟨by have := HK1.out; omega⟩, ⟨bl1_ HB.out GE147.out⟩⟩
     ·rw [if_neg c6] at H
      exact absurd H (by simp)
    ·rw [if_neg c5] at H
     exact absurd H (by simp)
   ·rw [if_neg c4] at H
    have c4b0 : decide (x12_1 < (l0.length : Int)) = false := decide_eq_false c4
    clear c4
    obtain rfl := Option.some.inj H
    go_wp2
    go_ret
    exact ⟨er_, bl0_ HB.out⟩


theorem sub_diff (e M ch : Nat) : subE e (diffN M ch) = (subE e M && decide (e &&& ch = 0)) := by
 rw [Bool.eq_iff_iff, Bool.and_eq_true, decide_eq_true_iff, subE_test, subE_test]
 constructor
 ·intro h
  refine ⟨fun i hi => ?_, ?_⟩
  ·have := h i hi
   rw [diffN_test, Bool.and_eq_true] at this
   exact this.1
  ·apply Nat.eq_of_testBit_eq
   intro i
   rw [Nat.testBit_and, Nat.zero_testBit]
   cases hi : e.testBit i with
   | false => rfl
   | true =>
    have := h i hi
    rw [diffN_test, Bool.and_eq_true] at this
    simpa using this.2
 ·rintro ⟨h1, h2⟩ i hi
  rw [diffN_test, h1 i hi, free_bit h2 hi]; rfl
theorem find_miss (M ch : Nat) : ∀ E : List Nat, (E.find? fun e => subE e (diffN M ch)) = missF (E.filter fun e => subE e M) ch
 | [] => rfl
 | e :: E => by
  have ih := find_miss M ch E
  by_cases h1 : subE e M = true
  ·rw [List.filter_cons_of_pos (p := fun e => subE e M) h1]
   unfold missF at ih ⊢
   by_cases h2 : e &&& ch = 0
   ·rw [List.find?_cons_of_pos (p := fun e => subE e (diffN M ch)) (by rw [sub_diff, h1]; simp [h2]), List.find?_cons_of_pos (by simp [h2])]
   ·rw [List.find?_cons_of_neg (p := fun e => subE e (diffN M ch)) (by rw [sub_diff, h1]; simp [h2]), List.find?_cons_of_neg (by simp [h2]), ih]
  ·rw [List.filter_cons_of_neg (p := fun e => subE e M) h1, List.find?_cons_of_neg (p := fun e => subE e (diffN M ch)) (by rw [sub_diff]; simp [h1]), ih]
theorem diffN_or (M ch b : Nat) : diffN (diffN M ch) b = diffN M (ch ||| b) := by
 apply Nat.eq_of_testBit_eq
 intro i
 rw [diffN_test, diffN_test, diffN_test, Nat.testBit_or]
 cases M.testBit i <;> cases ch.testBit i <;> cases b.testBit i <;> rfl
theorem diffN_none (M : Nat) : diffN M 0 = M := by
 apply Nat.eq_of_testBit_eq
 intro i
 rw [diffN_test, Nat.zero_testBit]; simp
theorem sqHit_l0 {PL : List S122} {E : List Nat} (h : PL.map (fun q => q.f3) = E.map (fun n : Nat => (n : Int))) (hE : ∀ e ∈ E, e < 2 ^ 60) (hl : E.length ≤ 30) (X : Nat) (hX : X < 2 ^ 60) (n : Int) (k : Nat) : ∀ (d i : Nat), E.length - i = d → i ≤ E.length →
  (((E.drop i).find? fun e => subE e X) = none → spec_sqHit.l0 (k + d + 1) PL (X : Int) n PL (PL.length : Int) (i : Int) = some true) ∧
  (∀ e, ((E.drop i).find? fun e => subE e X) = some e → ∃ k', k ≤ k' ∧ spec_sqHit.l0 (k + d + 1) PL (X : Int) n PL (PL.length : Int) (i : Int) = if n = 0 then some false else spec_sqHit.l1 k' PL (X : Int) n (e : Int)) := by
 have hlen : PL.length = E.length := by have := congrArg List.length h; simpa using this
 intro d
 induction d with
 | zero =>
  intro i h1 h2
  have hi : i = E.length := by omega
  subst hi
  rw [List.drop_length]
  refine ⟨fun _ => ?_, fun e he => by cases he⟩
  rw [Nat.add_zero, spec_sqHit.l0, hlen, if_neg (by omega)]
 | succ d ih =>
  intro i h1 h2
  have hi : i < E.length := by omega
  obtain ⟨hp1, hp2⟩ := map_at h (⟨0, 0, 0, 0⟩ : S122) i hi
  have hrd : (rd_T122 PL (i : Int)).f3 = ((E[i] : Nat) : Int) := by
   unfold rd_T122; rw [Int.toNat_natCast]; exact hp2
  have hEi := hE _ (List.getElem_mem hi)
  have hand := and_i64 X E[i] hX hEi
  have hstep : spec_sqHit.l0 (k + (d + 1) + 1) PL (X : Int) n PL (PL.length : Int) (i : Int) = if subE E[i] X = true then (if n = 0 then some false else spec_sqHit.l1 (k + (d + 1)) PL (X : Int) n ((E[i] : Nat) : Int)) else spec_sqHit.l0 (k + d + 1) PL (X : Int) n PL (PL.length : Int) ((i + 1 : Nat) : Int) := by
   rw [spec_sqHit.l0, if_pos (by rw [hlen]; omega), if_pos (by omega), if_pos (by omega), hrd, hand]
   have hw : wrap64 ((i : Int) + 1) = ((i + 1 : Nat) : Int) := by unfold wrap64; omega
   rw [hw]
   by_cases hs : subE E[i] X = true
   ·rw [if_pos (by exact_mod_cast (subE_and _ _).1 hs), if_pos hs]
   ·rw [if_neg (fun hh => hs ((subE_and _ _).2 (by exact_mod_cast hh))), if_neg hs]; rfl
  rw [hstep, List.drop_eq_getElem_cons hi]
  obtain ⟨a1, a2⟩ := ih (i + 1) (by omega) (by omega)
  by_cases hs : subE E[i] X = true
  ·rw [List.find?_cons_of_pos (p := fun e => subE e X) hs, if_pos hs]
   refine ⟨fun hh => (by cases hh), fun e he => ?_⟩
   obtain rfl := Option.some.inj he
   exact ⟨k + (d + 1), by omega, rfl⟩
  ·rw [List.find?_cons_of_neg (p := fun e => subE e X) hs, if_neg hs]
   exact ⟨a1, a2⟩
theorem any_flat {α : Type} (f : α → List Nat) : ∀ l : List α, (!(l.flatMap f).isEmpty) = l.any fun x => !(f x).isEmpty
 | [] => rfl
 | x :: l => by
  have ih := any_flat f l
  rw [List.flatMap_cons, List.any_cons, ← ih]
  cases f x with
  | nil => rfl
  | cons a t => rfl
theorem sqHit_l1 {PL : List S122} (Ls : List Nat) (M ch m : Nat) (hM : M < 2 ^ 60) (hm : m ≤ 64) (F : Nat)
  (ih : ∀ (k ch : Nat), F ≤ k → ch < 2 ^ 60 → spec_sqHit.f k PL ((diffN M ch : Nat) : Int) (m : Int) = some (!(hitW Ls m ch).isEmpty)) (hch : ch < 2 ^ 60) :
  ∀ (c B k : Nat), (bitsN B).length = c → B < 2 ^ 60 → F + c < k → spec_sqHit.l1 k PL ((diffN M ch : Nat) : Int) ((m + 1 : Nat) : Int) (B : Int) = some ((bitsI B).any fun x => !(hitW Ls m (ch ||| 2 ^ x.toNat)).isEmpty) := by
 intro c
 induction c with
 | zero =>
  intro B k h1 h2 hk
  have hB : B = 0 := by
   rcases Nat.eq_zero_or_pos B with h0 | h0
   ·exact h0
   ·rw [bitsN_step B (by omega) h2] at h1; simp at h1
  subst hB
  obtain ⟨k, rfl⟩ : ∃ q, k = q + 1 := ⟨k - 1, by omega⟩
  rw [spec_sqHit.l1, if_pos (show ((0 : Nat) : Int) = 0 from rfl)]
  unfold bitsI; rw [bitsN_zero]; rfl
 | succ c ihc =>
  intro B k h1 h2 hk
  have hB : B ≠ 0 := by rintro rfl; rw [bitsN_zero] at h1; simp at h1
  obtain ⟨q1, q2, -, -, q5⟩ := low_bits B hB h2
  have hst := bitsN_step B hB h2
  have hlen : (bitsN (B &&& (B - 1))).length = c := by rw [hst, List.length_cons] at h1; omega
  have hp := pow_lt60 q1
  have hB1 : B - 1 < 2 ^ 60 := Nat.lt_of_le_of_lt (Nat.sub_le _ _) h2
  have hw1 : wrap64 ((B : Int) - 1) = ((B - 1 : Nat) : Int) := by
   have := lit60 h2
   clear ih ihc h1 hst hlen q1 q2 q5 hp
   unfold wrap64; omega
  have hw2 : wrap64 (((m + 1 : Nat) : Int) - 1) = (m : Int) := by
   clear ih ihc h1 hst hlen q1 q2 q5 hp
   unfold wrap64; omega
  obtain ⟨k, rfl⟩ : ∃ q, k = q + 1 := ⟨k - 1, by omega⟩
  have hbi : bitsI B = ((Lib.ctz 64 B : Nat) : Int) :: bitsI (B &&& (B - 1)) := by unfold bitsI; rw [hst]; rfl
  rw [spec_sqHit.l1, if_neg (by exact_mod_cast hB), wrap_neg B (lit60 h2), and_neg_i64 B hB h2, andNot_i64 _ _ (diffN_lt ch hM) hp, diffN_or, hw1, hw2, ih k _ (by omega) (Nat.or_lt_two_pow hch hp), Option.bind_some, hbi, List.any_cons, Int.toNat_natCast, and_i64 _ _ h2 hB1]
  cases (!(hitW Ls m (ch ||| 2 ^ Lib.ctz 64 B)).isEmpty) with
  | true => rw [if_pos rfl]; rfl
  | false => rw [if_neg (by simp), ihc _ k hlen (Nat.lt_of_le_of_lt Nat.and_le_left h2) (by omega)]; rfl
theorem sqHit_f {PL : List S122} {E : List Nat} (h : PL.map (fun q => q.f3) = E.map (fun n : Nat => (n : Int))) (hE : ∀ e ∈ E, e < 2 ^ 60) (hl : E.length ≤ 30) (M : Nat) (hM : M < 2 ^ 60) :
  ∀ (n k ch : Nat), (n + 1) * 200 ≤ k → n ≤ 64 → ch < 2 ^ 60 → spec_sqHit.f k PL ((diffN M ch : Nat) : Int) (n : Int) = some (!(hitW (E.filter fun e => subE e M) n ch).isEmpty) := by
 have key : ∀ (k ch : Nat) (n : Int), 40 ≤ k → (missF (E.filter fun e => subE e M) ch = none → spec_sqHit.f k PL ((diffN M ch : Nat) : Int) n = some true) ∧
   (∀ e, missF (E.filter fun e => subE e M) ch = some e → ∃ k', k - 40 ≤ k' ∧ spec_sqHit.f k PL ((diffN M ch : Nat) : Int) n = if n = 0 then some false else spec_sqHit.l1 k' PL ((diffN M ch : Nat) : Int) n (e : Int)) := by
  intro k ch n hk
  obtain ⟨q, rfl⟩ : ∃ q, k = (q + E.length + 1) + 1 := ⟨k - E.length - 2, by omega⟩
  have := sqHit_l0 h hE hl (diffN M ch) (diffN_lt ch hM) n q E.length 0 (by omega) (Nat.zero_le _)
  rw [List.drop_zero, find_miss] at this
  obtain ⟨a1, a2⟩ := this
  rw [spec_sqHit.f]
  refine ⟨a1, fun e he => ?_⟩
  obtain ⟨k', h1, h2⟩ := a2 e he
  exact ⟨k', by omega, h2⟩
 intro n
 induction n with
 | zero =>
  intro k ch hk hn hch
  obtain ⟨a1, a2⟩ := key k ch ((0 : Nat) : Int) (by omega)
  rcases hm : missF (E.filter fun e => subE e M) ch with _ | s
  ·rw [a1 hm, hitW_none hm]; rfl
  ·obtain ⟨k', -, h2⟩ := a2 s hm
   rw [h2, hitW_zero hm]; rfl
 | succ m ih =>
  intro k ch hk hn hch
  obtain ⟨a1, a2⟩ := key k ch ((m + 1 : Nat) : Int) (by omega)
  rcases hm : missF (E.filter fun e => subE e M) ch with _ | s
  ·rw [a1 hm, hitW_none hm]; rfl
  ·obtain ⟨k', h1, h2⟩ := a2 s hm
   have hs60 : s < 2 ^ 60 := hE s (List.mem_filter.1 (missF_mem hm)).1
   rw [h2, if_neg (by omega), hitW_succ hm, any_flat]
   exact sqHit_l1 (E.filter fun e => subE e M) M ch m hM (by omega) ((m + 1) * 200) (fun k ch hk hch => ih k ch hk (by omega) hch) hch _ s k' rfl hs60 (by have := bitsN_len s; omega)


def spec_sqFewest.l0 : Nat → List (S122) → Int → Int → Option (Int)
  | 0, _, _, _ => none
  | k + 1, x0, x1, x5 => (spec_sqHit.f k x0 x1 x5).bind fun t149 => (if t149 = true then (some x5) else (spec_sqFewest.l0 k x0 x1 (wrap64 (x5 + 1))))
def spec_sqFewest.f (k : Nat) (l0 : List (S122)) (a1 : Int) : Option (Int) := spec_sqFewest.l0 k l0 a1 0
theorem spec_sqFewest.mono_l : ∀ k, (∀ y0 y1 y2, LeO (spec_sqFewest.l0 k y0 y1 y2) (spec_sqFewest.l0 (k + 1) y0 y1 y2))
  | 0 => fun _ _ _ r h => by simp [spec_sqFewest.l0] at h
  | k + 1 => by
    have ih0 := spec_sqFewest.mono_l k
    · intro y0 y1 y2
      unfold spec_sqFewest.l0
      repeat' first
      | (with_reducible exact ih0 _ _ _)
      | (with_reducible exact spec_sqHit.mono _ _ _ _)
      | (with_reducible exact LeO.refl _)
      | (with_reducible exact LeO.none _)
      | (with_reducible refine LeO.ite ?_ ?_)
      | (with_reducible refine LeO.bind ?_ (fun _ => ?_))
      | exact ih0 _ _ _
      | exact spec_sqHit.mono _ _ _ _
      | exact LeO.none _
      | refine LeO.ite ?_ ?_
      | refine LeO.bind ?_ (fun _ => ?_)
theorem spec_sqFewest.mono : ∀ a0 a1 k, LeO (spec_sqFewest.f k a0 a1) (spec_sqFewest.f (k + 1) a0 a1) := by
  intro a0 a1 k
  have ih0 := spec_sqFewest.mono_l k
  unfold spec_sqFewest.f
  repeat' first
      | (with_reducible exact ih0 _ _ _)
      | (with_reducible exact spec_sqHit.mono _ _ _ _)
      | (with_reducible exact LeO.refl _)
      | (with_reducible exact LeO.none _)
      | (with_reducible refine LeO.ite ?_ ?_)
      | (with_reducible refine LeO.bind ?_ (fun _ => ?_))
      | exact ih0 _ _ _
      | exact spec_sqHit.mono _ _ _ _
      | exact LeO.none _
      | refine LeO.ite ?_ ?_
      | refine LeO.bind ?_ (fun _ => ?_)
set_option maxHeartbeats 8000000 in
set_option maxRecDepth 100000 in
theorem spec_sqFewest.calls (k : Nat) (A0 : Option Addr) (c0 : Nat) (l0 : List (S122)) (a1 : Int) (r : Int) (w : World) (hr0 : Kd.C k122 w A0 l0.length l0) (hc0 : l0.length ≤ c0) (h : spec_sqFewest.f k l0 a1 = some r) :
    Calls Tryd.prog 48 #[.slice A0 l0.length c0, .int .i64 a1] w fun e w' => e = .returned (.int .i64 r) ∧ Below w.heap.size w w' := by
  have HR0 := Aside0.mk hr0
  have HC0 := Aside0.mk hc0
  clear hr0 hc0
  have HB := Aside0.mk (Below.refl w.heap.size w)
  have H : (spec_sqFewest.l0 k l0 a1 0) = some r := h
  clear h
  have H' := Aside0.mk H
  clear H
  go_enter Tryd.func48, Tryd.ntmps48
  go_wp2
  go_loopg [5] k (fun kq v5 w' => ∃ (x5_1 : Int), v5 = .int .i64 x5_1 ∧ Aside0 (spec_sqFewest.l0 kq l0 a1 x5_1 = some r) ∧ Aside0 (kq ≤ k) ∧ Aside0 (Below w.heap.size w w'))
  case atStart => exact ⟨(0), rs_, H', ⟨Nat.le_refl _⟩, ⟨bl0_ HB.out⟩⟩
  case round =>
    clear H'
    try clear p2
    obtain ⟨x5_1, rfl, HA, HK1, HB⟩ := hrel
    cases gk with
    | zero => exact absurd HA.out (by simp [spec_sqFewest.l0])
    | succ k1 =>
      have H := HA.out
      clear HA
      simp only [spec_sqFewest.l0] at H
      replace H := Option.bind_eq_some_iff.mp H
      obtain ⟨t149, A30, H⟩ := H
      replace H : (if t149 = true then (some x5_1) else (spec_sqFewest.l0 k1 l0 a1 (wrap64 (x5_1 + 1)))) = some r := H
      have A3 := Aside0.mk A30
      clear A30
      by_cases c4 : t149 = true
      · subst c4
        have H1 : (some x5_1) = some r := by rw [if_pos rfl] at H; exact H
        clear H
        have H := H1
        clear H1
        obtain rfl := Option.some.inj H
        go_wp2_with (first | ((with_reducible refine gate_callee (f := 95) rfl ?_); refine goesL_ (some 9) rfl rfl Tryd.func95 (by kernel_rfl) rfl #[.slice A0 l0.length c0, .int .i64 a1, .int .i64 x5_1] rfl ob_ ?_; (with_reducible refine (spec_sqHit.calls k1 _ _ l0 a1 x5_1 true _ ?side1 ?side2 A3.out).mono ?_); (case side1 => exact kc_ (Kd.C_below HR0.out HB.out)); (case side2 => exact HC0.out); rintro e w5 ⟨rfl, hb⟩; refine ⟨_, rfl, ?_⟩; have n0_ := Aside0.mk (below_step (bl0_ HB.out) hb); clear HB; have HB := n0_; clear n0_; (try clear hb); (try clear hb2); (try clear hk); (try clear hi)))
        go_ret
        exact ⟨er_, bl0_ HB.out⟩
      · replace c4 := Bool.eq_false_iff.mpr c4
        subst c4
        have H1 : (spec_sqFewest.l0 k1 l0 a1 (wrap64 (x5_1 + 1))) = some r := by rw [if_neg (show ¬ (false = true) by decide)] at H; exact H
        clear H
        have H := H1
        clear H1
        have H' := Aside0.mk H
        clear H
        go_wp2_with (first | ((with_reducible refine gate_callee (f := 95) rfl ?_); refine goesL_ (some 9) rfl rfl Tryd.func95 (by kernel_rfl) rfl #[.slice A0 l0.length c0, .int .i64 a1, .int .i64 x5_1] rfl ob_ ?_; (with_reducible refine (spec_sqHit.calls k1 _ _ l0 a1 x5_1 false _ ?side1 ?side2 A3.out).mono ?_); (case side1 => exact kc_ (Kd.C_below HR0.out HB.out)); (case side2 => exact HC0.out); rintro e w6 ⟨rfl, hb⟩; refine ⟨_, rfl, ?_⟩; have n0_ := Aside0.mk (below_step (bl0_ HB.out) hb); clear HB; have HB := n0_; clear n0_; (try clear hb); (try clear hb2); (try clear hk); (try clear hi)))
        go_roundg k1
        case measure => have := HK1.out; omega
        case rel => exact ⟨(wrap64 (x5_1 + 1)), rs_, H', ⟨by have := HK1.out; omega⟩, ⟨bl0_ HB.out⟩⟩


def ChInv (Bo base : Nat) (acc : List Int) (O : Nat → Prop) (W : World) : Prop :=
  ∃ v, W.cell? ⟨Bo, 0, none⟩ = some v ∧ W.frozen? ⟨Bo, 0, none⟩ = false ∧ Kd.R (Kd.int .i64) 3 W base (fun k => k ≠ Bo) v acc ∧ ∀ k, O k ↔ k = Bo ∨ some k = v.ownBlock
theorem ChInv.move {Bo base : Nat} {acc : List Int} {O : Nat → Prop} {W W' : World} (hI : ChInv Bo base acc O W) (hk : ∀ k, O k → W'.heap[k]? = W.heap[k]?) : ChInv Bo base acc O W' := by
  obtain ⟨v, c1, f1, hR, hO⟩ := hI
  have hm := hk Bo ((hO Bo).2 (.inl rfl))
  exact ⟨v, (World.cell?_of_block (w := W) (a := ⟨Bo, 0, none⟩) hm).trans c1, (World.frozen?_of_block (w := W) (a := ⟨Bo, 0, none⟩) hm).trans f1, Kd.R_mono (Kd.R_move (Kd.R_tight rfl hR) (fun k h => hk k ((hO k).2 (.inr h)))) (fun k h => hR.1 k h.symm), hO⟩
theorem ChInv.lt {Bo base : Nat} {acc : List Int} {O : Nat → Prop} {W : World} (hI : ChInv Bo base acc O W) (k : Nat) (hk : O k) : k < W.heap.size := by
  obtain ⟨v, c1, f1, hR, hO⟩ := hI
  rcases (hO k).1 hk with rfl | h
  · exact World.block_lt_of_cell? W _ c1
  · exact Kd.R_lt hR k h.symm


def putN (acc : List Int) (c : Int) : List Int := if c ∈ acc then acc else acc ++ [c]
def TkPost (Bo base : Nat) (acc : List Int) (ws : List Nat) (O : Nat → Prop) (w : World) (e : Ending) (w' : World) : Prop :=
 e = .returned (.tuple #[]) ∧ ∃ O', ChInv Bo base ((ints ws).foldl putN acc) O' w' ∧ FrameBut O w w' ∧ ∀ k, O' k → O k ∨ w.heap.size ≤ k
def leftW (E : List Nat) (M n ch : Nat) : List Nat := (hitW (E.filter fun e => subE e M) n ch).map (diffN M)
set_option maxRecDepth 100000 in
set_option maxHeartbeats 8000000 in
theorem tk_stop (Bo base : Nat) (PL : List S122) (A : Option Addr) (c : Nat) (X : Int) (acc : List Int) (O : Nat → Prop) (w : World) (hI : ChInv Bo base acc O w) (hC : Kd.C k122 w A PL.length PL) (i0 : Nat) (hi0 : i0 < PL.length) (hl30 : PL.length ≤ 1000000)
  (h0 : ∀ i, i < i0 → Go.bits .and .i64 X (rd_T122 PL (i : Int)).f3 ≠ (rd_T122 PL (i : Int)).f3) (h1 : Go.bits .and .i64 X (rd_T122 PL (i0 : Int)).f3 = (rd_T122 PL (i0 : Int)).f3) :
  Calls Tryd.prog 92 #[.slice A PL.length c, .int .i64 X, .int .i64 0, .pointer (some ⟨Bo, 0, none⟩)] w fun e w' => e = .returned (.tuple #[]) ∧ Below w.heap.size w w' := by
 have HC := Aside0.mk hC
 have H0 := Aside0.mk h0
 have H1 := Aside0.mk h1
 clear hI hC h0 h1
 generalize hn : PL.length = n at hi0 hl30
 have HN := Aside0.mk hn
 clear hn
 have HC2 : Aside0 (Kd.C k122 w A n PL) := ⟨by have h := HC.out; rw [HN.out] at h; exact h⟩
 clear HC
 go_enter Tryd.func92, Tryd.ntmps92
 go_wp2_with fail
 go_loopg [15] (n + 1) (fun gg u15 wr => ∃ i : Nat, i ≤ i0 ∧ n + 1 - i ≤ gg ∧ u15 = .int .i64 i ∧ Aside0 (Below w.heap.size w wr))
 case atStart => exact ⟨0, Nat.zero_le _, Nat.le_refl _, rfl, ⟨Below.refl _ _⟩⟩
 case round =>
  obtain ⟨i, hii, hgg, rfl, HB⟩ := hrel
  have hlz : (i : Int) < (n : Int) := by omega
  obtain ⟨ad, eA, hx, hx2, hx3, hx4⟩ := at_T122 (Kd.C_below HC2.out HB.out) (i : Int) (by omega) (by omega)
  cases eA
  rw [Int.toNat_natCast] at hx hx2 hx3 hx4
  have e1 : IntKind.i64.wrap ((i : Int) + 1) = (i : Int) + 1 := IntWalk.i64_in _ (by omega)
  by_cases hlt : i < i0
  ·have hne := H0.out i hlt
   generalize rd_T122 PL (i : Int) = q at hx hx2 hx3 hx4 hne
   obtain ⟨q0, q1, q2, q3⟩ := q
   have hne2 : (Go.bits .and .i64 X q3 != q3) = true := by simpa using hne
   have hB1 : Below w.heap.size w (wr.alloc (.cells #[.int .i64 q0, .int .i64 q1, .int .i64 q2, .int .i64 q3] 122)) := below_alloc HB.out _
   have HB1 := Aside0.mk hB1
   clear hne hB1
   go_wp2_with fail
   go_roundg (n + 1 - (i + 1))
   case measure => omega
   case rel => exact ⟨i + 1, by omega, Nat.le_refl _, by go_num, HB1⟩
  ·have hie : i = i0 := by omega
   subst hie
   have heq := H1.out
   generalize rd_T122 PL (i : Int) = q at hx hx2 hx3 hx4 heq
   obtain ⟨q0, q1, q2, q3⟩ := q
   have hne2 : (Go.bits .and .i64 X q3 != q3) = false := by simpa using heq
   have hB1 : Below w.heap.size w (wr.alloc (.cells #[.int .i64 q0, .int .i64 q1, .int .i64 q2, .int .i64 q3] 122)) := below_alloc HB.out _
   have HB1 := Aside0.mk hB1
   clear heq hB1
   go_wp2_with fail
   exact bodyPost_ret (v := .tuple #[]) (by simp [results, Tryd.results92, go_sem]) rfl ⟨rfl, HB1.out⟩
set_option maxRecDepth 100000 in
set_option maxHeartbeats 16000000 in
theorem tk_none (Bo base : Nat) (hbo : base ≤ Bo) (PL : List S122) (A : Option Addr) (c : Nat) (X left : Int) (acc : List Int) (O : Nat → Prop) (w : World) (hlen : acc.length ≤ 2 ^ 40) (hI : ChInv Bo base acc O w) (hC : Kd.C k122 w A PL.length PL) (hl30 : PL.length ≤ 1000000)
  (h0 : ∀ i, i < PL.length → Go.bits .and .i64 X (rd_T122 PL (i : Int)).f3 ≠ (rd_T122 PL (i : Int)).f3) :
  Calls Tryd.prog 92 #[.slice A PL.length c, .int .i64 X, .int .i64 left, .pointer (some ⟨Bo, 0, none⟩)] w fun e w' => e = .returned (.tuple #[]) ∧ ∃ O', ChInv Bo base (putN acc X) O' w' ∧ FrameBut O w w' ∧ ∀ k, O' k → O k ∨ w.heap.size ≤ k := by
 have HC := Aside0.mk hC
 have H0 := Aside0.mk h0
 have HI := Aside0.mk hI
 have HL := Aside0.mk hlen
 have hi5 : (Tryd.prog.info? 3).map (fun i => (i.zero, i.size, i.bytes)) = some (some (.int .i64 0), 1, 8) := by kernel_rfl
 clear hI hC h0 hlen
 generalize hn : PL.length = n at hl30
 have HN := Aside0.mk hn
 clear hn
 have HC2 : Aside0 (Kd.C k122 w A n PL) := ⟨by have h := HC.out; rw [HN.out] at h; exact h⟩
 clear HC
 go_enter Tryd.func92, Tryd.ntmps92
 go_wp2_with fail
 go_loopg [15] (n + 1) (fun gg u15 wr => ∃ i : Nat, i ≤ n ∧ n + 1 - i ≤ gg ∧ u15 = .int .i64 i ∧ Aside0 (Below w.heap.size w wr))
 case atStart => exact ⟨0, Nat.zero_le _, Nat.le_refl _, rfl, ⟨Below.refl _ _⟩⟩
 case round =>
  obtain ⟨i, hii, hgg, rfl, HB⟩ := hrel
  by_cases hlt : i < n
  ·have hlz : (i : Int) < (n : Int) := by omega
   obtain ⟨ad, eA, hx, hx2, hx3, hx4⟩ := at_T122 (Kd.C_below HC2.out HB.out) (i : Int) (by omega) (by omega)
   cases eA
   rw [Int.toNat_natCast] at hx hx2 hx3 hx4
   have e1 : IntKind.i64.wrap ((i : Int) + 1) = (i : Int) + 1 := IntWalk.i64_in _ (by omega)
   have hne := H0.out i (by rw [HN.out]; exact hlt)
   generalize rd_T122 PL (i : Int) = q at hx hx2 hx3 hx4 hne
   obtain ⟨q0, q1, q2, q3⟩ := q
   have hne2 : (Go.bits .and .i64 X q3 != q3) = true := by simpa using hne
   have hB1 : Below w.heap.size w (wr.alloc (.cells #[.int .i64 q0, .int .i64 q1, .int .i64 q2, .int .i64 q3] 122)) := below_alloc HB.out _
   have HB1 := Aside0.mk hB1
   clear hne hB1
   go_wp2_with fail
   go_roundg (n + 1 - (i + 1))
   case measure => omega
   case rel => exact ⟨i + 1, by omega, Nat.le_refl _, by go_num, HB1⟩
  ·have hlz : ¬ (i : Int) < (n : Int) := by omega
   have hI2 := HI.out.move (W' := wr) (fun k hk => HB.out.block k (HI.out.lt k hk))
   obtain ⟨v, c1, f1, hR, hO⟩ := hI2
   have b1 : Bo < wr.heap.size := World.block_lt_of_cell? wr _ c1
   obtain ⟨A0, d0, rfl⟩ := Kd.R_slice hR
   have HR := Aside0.mk hR
   have HO := Aside0.mk hO
   have HBr := HB
   clear hR hO HB
   go_wp2_with fail
   go_loopg [52] (acc.length + 1) (fun gg u52 wq => ∃ j : Nat, j ≤ acc.length ∧ acc.length + 1 - j ≤ gg ∧ u52 = .int .i64 j ∧ Aside0 (wq = wr) ∧ Aside0 (∀ x ∈ acc.take j, x ≠ X))
   case atStart => exact ⟨0, Nat.zero_le _, Nat.le_refl _, rfl, ⟨rfl⟩, ⟨fun x hx => by simp at hx⟩⟩
   case round =>
    obtain ⟨j, hja, hgg2, rfl, HW, HT⟩ := hrel
    have hw := HW.out
    clear HW
    subst hw
    by_cases hlt2 : j < acc.length
    ·have hlz2 : (j : Int) < (acc.length : Int) := by omega
     obtain ⟨ad, eA, hcell⟩ := Kd.at_int (Kd.R_reads' HR.out).2.2 (j : Int) (by omega) (by omega)
     subst eA
     have hrd : rd acc (j : Int) = acc[j] := by
      unfold rd; rw [Int.toNat_natCast, List.getD_eq_getElem?_getD, List.getElem?_eq_getElem hlt2]; rfl
     rw [hrd, Int.toNat_natCast] at hcell
     have hTk : Aside0 (acc.take (j + 1) = acc.take j ++ [acc[j]]) := ⟨List.take_succ_eq_append_getElem hlt2⟩
     have hmem : Aside0 (acc[j] ∈ acc) := ⟨List.getElem_mem hlt2⟩
     have e2 : IntKind.i64.wrap ((j : Int) + 1) = (j : Int) + 1 := IntWalk.i64_in _ (by have := HL.out; omega)
     clear hrd
     generalize acc[j] = x at hcell hTk hmem
     by_cases hx : x = X
     ·subst hx
      go_wp2_with fail
      exact bodyPost_ret (v := .tuple #[]) (by simp [results, Tryd.results92, go_sem]) rfl ⟨rfl, O, by unfold putN; rw [if_pos hmem.out]; exact ⟨_, c1, f1, HR.out, HO.out⟩, FrameBut.of_below HBr.out, fun k hk => .inl hk⟩
     ·have hxb : (x == X) = false := by rw [beq_eq_false_iff_ne]; exact hx
      have hT2 : Aside0 (∀ y ∈ acc.take (j + 1), y ≠ X) := ⟨fun y hy => by
       rw [hTk.out] at hy
       rcases List.mem_append.1 hy with hy | hy
       ·exact HT.out y hy
       ·rw [List.mem_singleton] at hy; rw [hy]; exact hx⟩
      go_wp2_with fail
      go_roundg (acc.length + 1 - (j + 1))
      case measure => omega
      case rel => exact ⟨j + 1, by omega, Nat.le_refl _, by go_num, ⟨rfl⟩, hT2⟩
    ·have hlz2 : ¬ (j : Int) < (acc.length : Int) := by omega
     have hX : X ∉ acc := fun h => HT.out X (by rw [List.take_of_length_le (by omega)]; exact h) rfl
     have hput : Aside0 (putN acc X = acc ++ [X]) := ⟨by unfold putN; rw [if_neg hX]⟩
     have hnv : some Bo ≠ (Value.slice A0 acc.length d0).ownBlock := fun h => HR.out.1 Bo h.symm rfl
     have HLN : Aside0 ((acc ++ [X]).length = acc.length + 1) := ⟨by simp⟩
     have HBW : Aside0 (base ≤ wr.heap.size) := ⟨by omega⟩
     have HBA : Aside0 (∀ o, Bo < (wr.alloc o).heap.size) := ⟨fun o => by simp; omega⟩
     clear hX HT
     go_wp2_with ((at_builtin; refine Kd.R_append_row (w0 := wr) (h1 := fun _ => rfl) (Value.int .i64) (0 : Int) base rfl _ _ _ _ _ 8 rfl Tryd.underlying22 hi5 rfl (by decide) (.slice A0 acc.length d0) acc [X] _ 1 _ (fun k => k ≠ Bo) rfl rfl ?xF ?xA ?xB ?xC ?xD ?xE ?_; (case xF => exact fun k hk => by simp at hk; omega); (case xA => exact Kd.R_alloc HR.out _); (case xB => exact lit1_C (Value.int .i64) (fun _ => rfl) 3 wr X); (case xC => exact (below_alloc (Below.refl wr.heap.size wr) _).mono HBW.out); (case xD => simp; omega); (case xE => have h_ := HL.out; omega); intro v1 w1 ho hb hg hat; obtain ⟨A1, d1, rfl⟩ := Kd.R_slice ho; have cx : w1.cell? ⟨Bo, 0, none⟩ = some (.slice A0 acc.length d0) := cell_grown hg ((World.cell?_alloc_lt _ _ _ b1).trans c1) hnv; have fx : w1.frozen? ⟨Bo, 0, none⟩ = false := (World.frozen?_of_block (a := ⟨Bo, 0, none⟩) (hg.block Bo (HBA.out _) hnv)).trans ((World.frozen?_of_block (w := wr) (a := ⟨Bo, 0, none⟩) (Below.heap_alloc _ _ _ b1)).trans f1); have HO1 := Aside0.mk ho; have HB1 := Aside0.mk hb; have HG1 := Aside0.mk hg; have HA1 := Aside0.mk hat; clear ho hb hg hat))
     refine bodyPost_end (v := .tuple #[]) (by simp [results, Tryd.results92, go_sem]) rfl ⟨rfl, fun k => k = Bo ∨ some k = (Value.slice A1 (acc ++ [X]).length d1).ownBlock, ⟨.slice A1 (acc ++ [X]).length d1, ?_, ?_, ?_, fun k => Iff.rfl⟩, ?_, fun k hk => ?_⟩
     ·rw [HLN.out]; apply World.cell?_setCell_same; exact cx
     ·rw [World.frozen?_setCell]; exact fx
     ·rw [hput.out]; exact Kd.R_far (p := ⟨Bo, 0, none⟩) HO1.out (fun k hk => hk) _
     ·exact (FrameBut.of_below HBr.out).trans ((((FrameBut.refl O wr).alloc _).grown HG1.out (fun k hk => .inl ((HO.out k).2 (.inr hk.symm)))).setCell (.inl ((HO.out Bo).2 (.inl rfl))) _) (fun k h => .inl h)
     ·rcases hk with hk | hk
      ·exact .inl ((HO.out k).2 (.inl hk))
      ·rcases HA1.out with h | ⟨b, h, hb⟩
       ·exact .inl ((HO.out k).2 (.inr (hk.trans h)))
       ·rw [h] at hk
        cases hk
        have := HBr.out.size
        exact .inr (by simp at hb; omega)
def GoodL (acc : List Int) : Prop := acc.Nodup ∧ ∀ x ∈ acc, 0 ≤ x ∧ x < 1099511627776
theorem GoodL.len {acc : List Int} (h : GoodL acc) : acc.length ≤ 2 ^ 40 := by
 have h1 : (acc.map Int.toNat).Nodup := by
  unfold List.Nodup
  rw [List.pairwise_map]
  refine List.Pairwise.imp_of_mem (fun {a b} ha hb hab he => hab ?_) h.1
  have h2 := h.2 a ha
  have h3 := h.2 b hb
  omega
 have h2 := nodup_len (2 ^ 40) _ h1 (fun x hx => by
  obtain ⟨y, hy, rfl⟩ := List.mem_map.1 hx
  have h3 := h.2 y hy
  omega)
 rwa [List.length_map] at h2
theorem GoodL.put {acc : List Int} (h : GoodL acc) {x : Int} (h0 : 0 ≤ x) (h1 : x < 1099511627776) : GoodL (putN acc x) := by
 unfold putN
 by_cases hx : x ∈ acc
 ·rw [if_pos hx]; exact h
 ·rw [if_neg hx]
  refine ⟨List.nodup_append.2 ⟨h.1, List.nodup_cons.2 ⟨List.not_mem_nil, List.nodup_nil⟩, fun a ha b hb hab => ?_⟩, fun y hy => ?_⟩
  ·rw [List.mem_singleton] at hb
   exact hx (by rw [← hb, ← hab]; exact ha)
  ·rcases List.mem_append.1 hy with hy | hy
   ·exact h.2 y hy
   ·rw [List.mem_singleton] at hy; rw [hy]; exact ⟨h0, h1⟩
theorem GoodL.fold : ∀ (D : List Nat) (acc : List Int), GoodL acc → (∀ x ∈ D, x < 2 ^ 40) → GoodL ((ints D).foldl putN acc)
 | [], _, h, _ => h
 | x :: D, acc, h, hD => GoodL.fold D (putN acc (x : Int)) (h.put (Int.natCast_nonneg x) (by have := hD x List.mem_cons_self; omega)) (fun y hy => hD y (List.mem_cons_of_mem _ hy))
theorem leftW_lt {E : List Nat} {M : Nat} (hM : M < 2 ^ 40) (n ch : Nat) : ∀ x ∈ leftW E M n ch, x < 2 ^ 40 := by
 intro x hx
 obtain ⟨z, -, rfl⟩ := List.mem_map.1 hx
 exact diffN_lt z hM
theorem flat_lt {E : List Nat} {M : Nat} (hM : M < 2 ^ 40) (m ch : Nat) (l : List Int) : ∀ x ∈ l.flatMap (fun x => leftW E M m (ch ||| 2 ^ x.toNat)), x < 2 ^ 40 := by
 intro x hx
 obtain ⟨y, -, h⟩ := List.mem_flatMap.1 hx
 exact leftW_lt hM _ _ x h
theorem wn60 {B : Nat} (h : B < 2 ^ 60) : IntKind.i64.wrap (-(B : Int)) = -(B : Int) := by
 have := lit60 h
 clear h
 exact IntWalk.i64_in _ (by omega)
theorem wp60 {B : Nat} (h : B < 2 ^ 60) (h0 : B ≠ 0) : IntKind.i64.wrap ((B : Int) - 1) = ((B - 1 : Nat) : Int) := by
 have := lit60 h
 clear h
 rw [IntWalk.i64_in _ (by omega)]
 omega
def TkMid (E : List Nat) (M m ch e : Nat) (Bo base : Nat) (acc : List Int) (O : Nat → Prop) (W0 : World) (B : Nat) (wr : World) : Prop :=
 ∃ D O', ((bitsI e).flatMap fun x => leftW E M m (ch ||| 2 ^ x.toNat)) = D ++ ((bitsI B).flatMap fun x => leftW E M m (ch ||| 2 ^ x.toNat)) ∧ ChInv Bo base ((ints D).foldl putN acc) O' wr ∧ FrameBut O W0 wr ∧ ∀ k, O' k → O k ∨ W0.heap.size ≤ k
theorem ints_append (a b : List Nat) : ints (a ++ b) = ints a ++ ints b := by unfold ints; rw [List.map_append]
theorem tk_call {Bo base : Nat} {E : List Nat} {PL : List S122} {w0 : World} {Kp : Nat → Prop} {A : Option Addr} {c M m n : Nat}
  (ih : ∀ (ch : Nat) (acc : List Int) (O : Nat → Prop) (w : World), ch < 2 ^ 60 → GoodL acc → ChInv Bo base acc O w → w0.heap.size ≤ w.heap.size → (∀ k, Kp k → w.heap[k]? = w0.heap[k]?) → (∀ k, O k → ¬ Kp k) →
   Calls Tryd.prog 92 #[.slice A PL.length c, .int .i64 ((diffN M ch : Nat) : Int), .int .i64 (m : Int), .pointer (some ⟨Bo, 0, none⟩)] w (TkPost Bo base acc (leftW E M m ch) O w)) (hn : PL.length = n)
  {ch : Nat} {acc : List Int} {O : Nat → Prop} {w : World} (h1 : ch < 2 ^ 60) (h2 : GoodL acc) (h3 : ChInv Bo base acc O w) (h4 : w0.heap.size ≤ w.heap.size) (h5 : ∀ k, Kp k → w.heap[k]? = w0.heap[k]?) (h6 : ∀ k, O k → ¬ Kp k) :
  Aside0 (Calls Tryd.prog 92 #[.slice A n c, .int .i64 ((diffN M ch : Nat) : Int), .int .i64 (m : Int), .pointer (some ⟨Bo, 0, none⟩)] w (TkPost Bo base acc (leftW E M m ch) O w)) := ⟨by
 have h := ih ch acc O w h1 h2 h3 h4 h5 h6
 rwa [hn] at h⟩
set_option maxRecDepth 100000 in
set_option maxHeartbeats 16000000 in
theorem tk_go (Bo base : Nat) (E : List Nat) (PL : List S122) (w0 : World) (Kp : Nat → Prop) (hKp : ∀ k, Kp k → k < w0.heap.size) (A : Option Addr) (c : Nat) (hrow : ∀ W : World, (∀ k, Kp k → W.heap[k]? = w0.heap[k]?) → Kd.C k122 W A PL.length PL) (hl30 : PL.length ≤ 1000000) (M m : Nat) (hM : M < 2 ^ 40) (hm : m < 64)
  (ih : ∀ (ch : Nat) (acc : List Int) (O : Nat → Prop) (w : World), ch < 2 ^ 60 → GoodL acc → ChInv Bo base acc O w → w0.heap.size ≤ w.heap.size → (∀ k, Kp k → w.heap[k]? = w0.heap[k]?) → (∀ k, O k → ¬ Kp k) →
   Calls Tryd.prog 92 #[.slice A PL.length c, .int .i64 ((diffN M ch : Nat) : Int), .int .i64 (m : Int), .pointer (some ⟨Bo, 0, none⟩)] w (TkPost Bo base acc (leftW E M m ch) O w))
  (ch : Nat) (acc : List Int) (O : Nat → Prop) (w : World) (hch : ch < 2 ^ 60) (hG : GoodL acc) (hI : ChInv Bo base acc O w) (hz : w0.heap.size ≤ w.heap.size) (hsame : ∀ k, Kp k → w.heap[k]? = w0.heap[k]?) (hO : ∀ k, O k → ¬ Kp k)
  (e i0 : Nat) (he : e < 2 ^ 60) (hi0 : i0 < PL.length)
  (h0 : ∀ i, i < i0 → Go.bits .and .i64 ((diffN M ch : Nat) : Int) (rd_T122 PL (i : Int)).f3 ≠ (rd_T122 PL (i : Int)).f3) (h1 : (rd_T122 PL (i0 : Int)).f3 = (e : Int)) (h2 : Go.bits .and .i64 ((diffN M ch : Nat) : Int) (e : Int) = (e : Int)) :
  Calls Tryd.prog 92 #[.slice A PL.length c, .int .i64 ((diffN M ch : Nat) : Int), .int .i64 ((m : Int) + 1), .pointer (some ⟨Bo, 0, none⟩)] w (TkPost Bo base acc ((bitsI e).flatMap fun x => leftW E M m (ch ||| 2 ^ x.toNat)) O w) := by
 have HROW := Aside0.mk hrow
 have HC := Aside0.mk (hrow w hsame)
 have HS := Aside0.mk hsame
 have HO := Aside0.mk hO
 have IH := Aside0.mk ih
 have HKP := Aside0.mk hKp
 have HI := Aside0.mk hI
 have H0 := Aside0.mk h0
 have H1 := Aside0.mk h1
 have H2 := Aside0.mk h2
 have HCH := Aside0.mk hch
 have HE := Aside0.mk he
 have hpos : (0 : Int) < (m : Int) + 1 := by omega
 have EM : Aside0 (IntKind.i64.wrap (m : Int) = (m : Int)) := ⟨IntWalk.i64_in _ (by omega)⟩
 have hM60 : M < 2 ^ 60 := Nat.lt_of_lt_of_le hM (Nat.pow_le_pow_right (by omega) (by omega))
 have hX60 : diffN M ch < 2 ^ 60 := diffN_lt ch hM60
 have HG : Aside0 (∀ D : List Nat, (∀ x ∈ D, x < 2 ^ 40) → GoodL ((ints D).foldl putN acc)) := ⟨fun D hD => GoodL.fold D acc hG hD⟩
 have HFL := Aside0.mk (flat_lt (E := E) hM m ch (bitsI e))
 have hst : ∀ B : Nat, B < 2 ^ 60 → B ≠ 0 → Go.bits .andNot .i64 ((diffN M ch : Nat) : Int) ((2 ^ Lib.ctz 64 B : Nat) : Int) = ((diffN M (ch ||| 2 ^ Lib.ctz 64 B) : Nat) : Int) := fun B hB h0 => by
  rw [andNot_i64 _ _ hX60 (pow_lt60 (low_bits B h0 hB).1), diffN_or]
 have HST := Aside0.mk hst
 clear hrow hsame hO ih hKp hI h0 h1 h2 hch he hM hM60 hst hX60 hG
 generalize hX : ((diffN M ch : Nat) : Int) = X at H0 H2 HST
 clear hX
 generalize hn : PL.length = n at hi0 hl30
 have HN := Aside0.mk hn
 clear hn
 have HC2 : Aside0 (Kd.C k122 w A n PL) := ⟨by have h := HC.out; rw [HN.out] at h; exact h⟩
 clear HC
 go_enter Tryd.func92, Tryd.ntmps92
 go_wp2_with fail
 go_loopg [15] (n + 1) (fun gg u15 wr => ∃ i : Nat, i ≤ i0 ∧ n + 1 - i ≤ gg ∧ u15 = .int .i64 i ∧ Aside0 (Below w.heap.size w wr))
 case atStart => exact ⟨0, Nat.zero_le _, Nat.le_refl _, rfl, ⟨Below.refl _ _⟩⟩
 case round =>
  obtain ⟨i, hii, hgg, rfl, HB⟩ := hrel
  have hlz : (i : Int) < (n : Int) := by omega
  obtain ⟨ad, eA, hx, hx2, hx3, hx4⟩ := at_T122 (Kd.C_below HC2.out HB.out) (i : Int) (by omega) (by omega)
  cases eA
  rw [Int.toNat_natCast] at hx hx2 hx3 hx4
  have e1 : IntKind.i64.wrap ((i : Int) + 1) = (i : Int) + 1 := IntWalk.i64_in _ (by omega)
  by_cases hlt : i < i0
  ·have hne := H0.out i hlt
   generalize rd_T122 PL (i : Int) = q at hx hx2 hx3 hx4 hne
   obtain ⟨q0, q1, q2, q3⟩ := q
   have hne2 : (Go.bits .and .i64 X q3 != q3) = true := by simpa using hne
   have hB1 : Below w.heap.size w (wr.alloc (.cells #[.int .i64 q0, .int .i64 q1, .int .i64 q2, .int .i64 q3] 122)) := below_alloc HB.out _
   have HB1 := Aside0.mk hB1
   clear hne hB1
   go_wp2_with fail
   go_roundg (n + 1 - (i + 1))
   case measure => omega
   case rel => exact ⟨i + 1, by omega, Nat.le_refl _, by go_num, HB1⟩
  ·have hie : i = i0 := by omega
   subst hie
   have hq3 := H1.out
   generalize rd_T122 PL (i : Int) = q at hx hx2 hx3 hx4 hq3
   obtain ⟨q0, q1, q2, q3⟩ := q
   have hq3' : q3 = (e : Int) := hq3
   subst hq3'
   have hne2 : (Go.bits .and .i64 X (e : Int) != (e : Int)) = false := by simpa using H2.out
   have hB1 : Below w.heap.size w (wr.alloc (.cells #[.int .i64 q0, .int .i64 q1, .int .i64 q2, .int .i64 (e : Int)] 122)) := below_alloc HB.out _
   have HM0 : Aside0 (TkMid E M m ch e Bo base acc O w e (wr.alloc (.cells #[.int .i64 q0, .int .i64 q1, .int .i64 q2, .int .i64 (e : Int)] 122))) := ⟨[], O, rfl, HI.out.move (fun k hk => hB1.block k (HI.out.lt k hk)), FrameBut.of_below hB1, fun k hk => .inl hk⟩
   clear hq3 hB1
   go_wp2_with fail
   have hbe := bitsN_len e
   go_loopg [10] ((bitsN e).length + 1) (fun gg u10 wr => ∃ B : Nat, B < 2 ^ 60 ∧ (bitsN B).length + 1 ≤ gg ∧ u10 = .int .i64 (B : Int) ∧ Aside0 (TkMid E M m ch e Bo base acc O w B wr))
   case atStart => exact ⟨e, HE.out, Nat.le_refl _, rfl, HM0⟩
   case round =>
    clear HM0
    obtain ⟨B, hB60, hgg2, rfl, HMid⟩ := hrel
    obtain ⟨D, O', hD, hI, hF, hO'⟩ := HMid.out
    by_cases hB0 : B = 0
    ·subst hB0
     have hnil : ((bitsI 0).flatMap fun x => leftW E M m (ch ||| 2 ^ x.toNat)) = [] := by unfold bitsI; rw [bitsN_zero]; rfl
     have HR : Aside0 (TkPost Bo base acc ((bitsI e).flatMap fun x => leftW E M m (ch ||| 2 ^ x.toNat)) O w (.returned (.tuple #[])) wr) := ⟨rfl, O', by rw [hD, hnil, List.append_nil]; exact hI, hF, hO'⟩
     have hz0 : (((0 : Nat) : Int) != 0) = false := rfl
     clear hD hI hF hO' hnil HMid
     go_wp2_with fail
     exact bodyPost_ret (v := .tuple #[]) (by simp [results, Tryd.results92, go_sem]) rfl HR.out
    ·obtain ⟨q1, q2, -, -, q5⟩ := low_bits B hB0 hB60
     have hstep := bitsN_step B hB0 hB60
     have hlen : (bitsN (B &&& (B - 1))).length + 1 ≤ (bitsN B).length := by rw [hstep, List.length_cons]; exact Nat.le_refl _
     have hbi : bitsI B = ((Lib.ctz 64 B : Nat) : Int) :: bitsI (B &&& (B - 1)) := by unfold bitsI; rw [hstep]; rfl
     have hneg := and_neg_i64 B hB0 hB60
     have hstB := HST.out B hB60 hB0
     clear hstep q2 q5
     generalize Lib.ctz 64 B = z at q1 hbi hneg hstB
     have hD2 : Aside0 (((bitsI e).flatMap fun x => leftW E M m (ch ||| 2 ^ x.toNat)) = (D ++ leftW E M m (ch ||| 2 ^ z)) ++ ((bitsI (B &&& (B - 1))).flatMap fun x => leftW E M m (ch ||| 2 ^ x.toNat))) := ⟨by
      rw [hD, hbi, List.flatMap_cons, Int.toNat_natCast, List.append_assoc]⟩
     have nO : ∀ k, Kp k → ¬ O' k := fun k hk h => (hO' k h).elim (fun h => HO.out k h hk) (fun h => absurd (Nat.lt_of_lt_of_le (HKP.out k hk) (Nat.le_trans hz h)) (Nat.lt_irrefl k))
     have hsm : ∀ k, Kp k → wr.heap[k]? = w0.heap[k]? := fun k hk => (hF.block k (Nat.lt_of_lt_of_le (HKP.out k hk) hz) (fun h => HO.out k h hk)).trans (HS.out k hk)
     have hGD : GoodL ((ints D).foldl putN acc) := HG.out D (fun x hx => HFL.out x (by rw [hD]; exact List.mem_append_left _ hx))
     have HCall := tk_call (ch := ch ||| 2 ^ z) IH.out HN.out (Nat.or_lt_two_pow HCH.out (pow_lt60 q1)) hGD hI (Nat.le_trans hz hF.size) hsm (fun k hk h => nO k h hk)
     have ew1 : IntKind.i64.wrap (-(B : Int)) = -(B : Int) := wn60 hB60
     have ew2 : IntKind.i64.wrap (m : Int) = (m : Int) := EM.out
     have ew3 : IntKind.i64.wrap ((B : Int) - 1) = ((B - 1 : Nat) : Int) := wp60 hB60 hB0
     have hand := and_i64 B (B - 1) hB60 (Nat.lt_of_le_of_lt (Nat.sub_le _ _) hB60)
     have hBb : ((B : Int) != 0) = true := by rw [bne_iff_ne]; exact fun h => hB0 (Int.ofNat.inj h)
     have HF := Aside0.mk hF
     have HO' := Aside0.mk hO'
     have hlt60 : B &&& (B - 1) < 2 ^ 60 := Nat.lt_of_le_of_lt Nat.and_le_left hB60
     clear hD hI hF hO' hbi nO hsm HMid q1 hGD
     generalize (2 ^ z : Nat) = b2 at hneg hstB HCall hD2
     generalize leftW E M m (ch ||| b2) = PW at HCall hD2
     generalize ((diffN M (ch ||| b2) : Nat) : Int) = Y at hstB HCall
     go_wp2_with ((go_at_call 92; (with_reducible refine HCall.out.mono ?_); rintro e w9 ⟨rfl, O9, hI9, hF9, hO9⟩; have I9 := Aside0.mk hI9; have HF9 := Aside0.mk hF9; have HO9 := Aside0.mk hO9; clear hI9 hF9 hO9))
     go_roundg ((bitsN (B &&& (B - 1))).length + 1)
     case measure => exact Nat.lt_of_lt_of_le (Nat.lt_succ_of_le hlen) hgg2
     case rel => exact ⟨B &&& (B - 1), hlt60, Nat.le_refl _, by go_num, ⟨_, O9, hD2.out, by rw [ints_append, List.foldl_append]; exact I9.out, HF.out.trans HF9.out (fun k h => HO'.out k h), fun k hk => (HO9.out k hk).elim (fun h => HO'.out k h) (fun h => .inr (Nat.le_trans HF.out.size h))⟩⟩

theorem tk_any (Bo base : Nat) (hbo : base ≤ Bo) (E : List Nat) (PL : List S122) (h : PL.map (fun q => q.f3) = E.map (fun n : Nat => (n : Int))) (hE : ∀ e ∈ E, e < 2 ^ 60) (w0 : World) (Kp : Nat → Prop) (hKp : ∀ k, Kp k → k < w0.heap.size) (A : Option Addr) (c : Nat) (hrow : ∀ W : World, (∀ k, Kp k → W.heap[k]? = w0.heap[k]?) → Kd.C k122 W A PL.length PL) (hl30 : PL.length ≤ 1000000) (M : Nat) (hM : M < 2 ^ 40) : ∀ (m : Nat), m ≤ 64 →
  ∀ (ch : Nat) (acc : List Int) (O : Nat → Prop) (w : World), ch < 2 ^ 60 → GoodL acc → ChInv Bo base acc O w → w0.heap.size ≤ w.heap.size → (∀ k, Kp k → w.heap[k]? = w0.heap[k]?) → (∀ k, O k → ¬ Kp k) →
   Calls Tryd.prog 92 #[.slice A PL.length c, .int .i64 ((diffN M ch : Nat) : Int), .int .i64 (m : Int), .pointer (some ⟨Bo, 0, none⟩)] w (TkPost Bo base acc (leftW E M m ch) O w) := by
 have hM60 : M < 2 ^ 60 := Nat.lt_of_lt_of_le hM (Nat.pow_le_pow_right (by omega) (by omega))
 have hlen : PL.length = E.length := by have := congrArg List.length h; simpa using this
 have hf3 : ∀ (i : Nat) (hi : i < E.length), (rd_T122 PL (i : Int)).f3 = ((E[i] : Nat) : Int) := fun i hi => by
  obtain ⟨hp1, hp2⟩ := map_at h (⟨0, 0, 0, 0⟩ : S122) i hi
  unfold rd_T122; rw [Int.toNat_natCast]; exact hp2
 have hsub : ∀ (ch i : Nat) (hi : i < E.length), Go.bits .and .i64 ((diffN M ch : Nat) : Int) (rd_T122 PL (i : Int)).f3 = (rd_T122 PL (i : Int)).f3 ↔ subE E[i] (diffN M ch) = true := fun ch i hi => by
  rw [hf3 i hi, and_i64 _ _ (diffN_lt ch hM60) (hE _ (List.getElem_mem hi)), subE_and]
  exact ⟨fun h => Int.ofNat.inj h, fun h => by rw [h]⟩
 have none_ : ∀ (ch : Nat), missF (E.filter fun e => subE e M) ch = none → ∀ i, i < PL.length → Go.bits .and .i64 ((diffN M ch : Nat) : Int) (rd_T122 PL (i : Int)).f3 ≠ (rd_T122 PL (i : Int)).f3 := fun ch hm i hi he => by
  rw [← find_miss, List.find?_eq_none] at hm
  exact hm E[i] (List.getElem_mem (by omega)) ((hsub ch i (by omega)).1 he)
 have some_ : ∀ (ch s : Nat), missF (E.filter fun e => subE e M) ch = some s → s < 2 ^ 60 ∧ ∃ i0, i0 < PL.length ∧ (∀ i, i < i0 → Go.bits .and .i64 ((diffN M ch : Nat) : Int) (rd_T122 PL (i : Int)).f3 ≠ (rd_T122 PL (i : Int)).f3) ∧ (rd_T122 PL (i0 : Int)).f3 = (s : Int) ∧ Go.bits .and .i64 ((diffN M ch : Nat) : Int) (s : Int) = (s : Int) := fun ch s hm => by
  rw [← find_miss, List.find?_eq_some_iff_getElem] at hm
  obtain ⟨hs, i0, hi0, hEs, hno⟩ := hm
  refine ⟨by rw [← hEs]; exact hE _ (List.getElem_mem _), i0, by omega, fun i hi he => ?_, by rw [hf3 i0 hi0, hEs], ?_⟩
  ·have h1 := hno i hi
   rw [(hsub ch i (by omega)).1 he] at h1
   cases h1
  ·have h2 := (hsub ch i0 hi0).2 (by rw [hEs]; exact hs)
   rw [hf3 i0 hi0, hEs] at h2
   exact h2
 have stay : ∀ (m ch : Nat), missF (E.filter fun e => subE e M) ch = none → leftW E M m ch = [diffN M ch] := fun m ch hm => by
  unfold leftW; rw [hitW_none hm]; rfl
 have noneC : ∀ (m ch : Nat) (acc : List Int) (O : Nat → Prop) (w : World), missF (E.filter fun e => subE e M) ch = none → GoodL acc → ChInv Bo base acc O w → (∀ k, Kp k → w.heap[k]? = w0.heap[k]?) →
   Calls Tryd.prog 92 #[.slice A PL.length c, .int .i64 ((diffN M ch : Nat) : Int), .int .i64 (m : Int), .pointer (some ⟨Bo, 0, none⟩)] w (TkPost Bo base acc (leftW E M m ch) O w) := fun m ch acc O w hm hG hI hsame => by
  refine (tk_none Bo base hbo PL A c _ (m : Int) acc O w hG.len hI (hrow w hsame) hl30 (none_ ch hm)).mono ?_
  rintro e w' ⟨rfl, O', h1, h2, h3⟩
  rw [stay m ch hm]
  exact ⟨rfl, O', h1, h2, h3⟩
 intro m
 induction m with
 | zero =>
  intro _ ch acc O w hch hG hI hz hsame hO
  rcases hm : missF (E.filter fun e => subE e M) ch with _ | s
  ·exact noneC 0 ch acc O w hm hG hI hsame
  ·obtain ⟨hs, i0, hi0, h0, h1, h2⟩ := some_ ch s hm
   refine (tk_stop Bo base PL A c _ acc O w hI (hrow w hsame) i0 hi0 hl30 h0 (by rw [h1]; exact h2)).mono ?_
   rintro e w' ⟨rfl, hb⟩
   have hnil : leftW E M 0 ch = [] := by unfold leftW; rw [hitW_zero hm]; rfl
   rw [hnil]
   exact ⟨rfl, O, hI.move (fun k hk => hb.block k (hI.lt k hk)), FrameBut.of_below hb, fun k hk => .inl hk⟩
 | succ m ih =>
  intro hm64 ch acc O w hch hG hI hz hsame hO
  rcases hm : missF (E.filter fun e => subE e M) ch with _ | s
  ·exact noneC (m + 1) ch acc O w hm hG hI hsame
  ·obtain ⟨hs, i0, hi0, h0, h1, h2⟩ := some_ ch s hm
   have hsu : leftW E M (m + 1) ch = (bitsI s).flatMap fun x => leftW E M m (ch ||| 2 ^ x.toNat) := by
    unfold leftW; rw [hitW_succ hm, List.map_flatMap]
   rw [hsu]
   exact tk_go Bo base E PL w0 Kp hKp A c hrow hl30 M m hM (by omega) (ih (by omega)) ch acc O w hch hG hI hz hsame hO s i0 hs hi0 h0 h1 h2


def lftOK (PL : List S122) (mask n : Int) : Bool := PL.all (fun q => decide (0 ≤ q.f3) && decide (q.f3 < 1152921504606846976)) && decide (PL.length ≤ 1000000) && decide (0 ≤ mask) && decide (mask < 1099511627776) && decide (0 ≤ n) && decide (n ≤ 64)
def lftL (PL : List S122) (mask n : Int) : List Int := (ints (leftW (PL.map fun q => q.f3.toNat) mask.toNat n.toNat 0)).foldl putN []
def spec_sqLeft.f (k : Nat) (a0_0 : Int) (a0_1 : Int) (l0_2 : List Int) (l0_3 : List Int) : Option (List Int) :=
 (spec_sqAll.f k a0_0 a0_1).bind fun PL => (spec_sqMask.f k a0_0 a0_1 l0_2 l0_3).bind fun mask => (spec_sqFewest.f k PL mask).bind fun n => if lftOK PL mask n = true then some (lftL PL mask n) else none
theorem spec_sqLeft.mono : ∀ a0 a1 a2 a3 k, LeO (spec_sqLeft.f k a0 a1 a2 a3) (spec_sqLeft.f (k + 1) a0 a1 a2 a3) := by
 intro a0 a1 a2 a3 k
 unfold spec_sqLeft.f
 exact LeO.bind (spec_sqAll.mono _ _ _) (fun _ => LeO.bind (spec_sqMask.mono _ _ _ _ _) (fun _ => LeO.bind (spec_sqFewest.mono _ _ _) (fun _ => LeO.refl _)))
theorem sqTakes_new (PL : List S122) (M n : Nat) (hOK : lftOK PL (M : Int) (n : Int) = true) (A : Option Addr) (c : Nat) (w : World) (hr : Kd.C k122 w A PL.length PL) (hrow : ∀ W : World, (∀ k, k < w.heap.size → W.heap[k]? = w.heap[k]?) → Kd.C k122 W A PL.length PL) (Bo : Nat) (W : World) (hB : Below w.heap.size w W) (hBo : w.heap.size ≤ Bo) (co : W.cell? ⟨Bo, 0, none⟩ = some (.slice none 0 0)) (fo : W.frozen? ⟨Bo, 0, none⟩ = false) :
  Calls Tryd.prog 92 #[.slice A PL.length c, .int .i64 (M : Int), .int .i64 (n : Int), .pointer (some ⟨Bo, 0, none⟩)] W fun e w' => e = .returned (.tuple #[]) ∧ ∃ A' c', w'.cell? ⟨Bo, 0, none⟩ = some (.slice A' (lftL PL (M : Int) (n : Int)).length c') ∧ Kd.R (Kd.int .i64) 3 w' w.heap.size (fun _ => True) (.slice A' (lftL PL (M : Int) (n : Int)).length c') (lftL PL (M : Int) (n : Int)) ∧ Below w.heap.size w w' := by
 unfold lftOK at hOK
 simp only [Bool.and_eq_true, decide_eq_true_eq, List.all_eq_true] at hOK
 obtain ⟨⟨⟨⟨⟨h1, h2⟩, -⟩, h4⟩, -⟩, h6⟩ := hOK
 have hM : M < 2 ^ 40 := by omega
 have hE : ∀ e ∈ PL.map (fun q => q.f3.toNat), e < 2 ^ 60 := fun e he => by
  obtain ⟨q, hq, rfl⟩ := List.mem_map.1 he
  have := h1 q hq
  omega
 have hP : PL.map (fun q => q.f3) = (PL.map fun q => q.f3.toNat).map (fun n : Nat => (n : Int)) := by
  rw [List.map_map]
  refine List.map_congr_left (fun q hq => ?_)
  have := h1 q hq
  show q.f3 = ((q.f3.toNat : Nat) : Int)
  omega
 have hc := tk_any Bo w.heap.size hBo _ PL hP hE w (fun k => k < w.heap.size) (fun _ h => h) A c hrow h2 M hM n (by omega) 0 [] (fun k => k = Bo) W (by decide) ⟨List.nodup_nil, fun x hx => by cases hx⟩ ⟨_, co, fo, Kd.R_nil _ _ _ _ _, fun k => by simp [Value.ownBlock]⟩ hB.size (fun k hk => hB.block k hk) (fun k hk h => by omega)
 rw [diffN_none] at hc
 refine hc.mono ?_
 rintro e w' ⟨rfl, O', ⟨v, c1, _, hR, _⟩, hF, _⟩
 have hL : lftL PL (M : Int) (n : Int) = (ints (leftW (PL.map fun q => q.f3.toNat) M n 0)).foldl putN [] := by unfold lftL; rw [Int.toNat_natCast, Int.toNat_natCast]
 rw [← hL] at hR
 obtain ⟨A', c', rfl⟩ := Kd.R_slice hR
 exact ⟨rfl, A', c', c1, Kd.R_mono hR (fun _ _ => trivial), hB.trans (hF.toBelow hB.size (fun k hk h => by omega))⟩
set_option maxRecDepth 100000 in
set_option maxHeartbeats 16000000 in
theorem spec_sqLeft.calls (k : Nat) (a0_0 : Int) (a0_1 : Int) (A0_2 : Option Addr) (c0_2 : Nat) (l0_2 : List Int) (A0_3 : Option Addr) (c0_3 : Nat) (l0_3 : List Int) (r : List Int) (w : World) (hr0_2 : Kd.C (Kd.int .i64) w A0_2 l0_2.length l0_2) (hc0_2 : l0_2.length ≤ c0_2) (hr0_3 : Kd.C (Kd.int .i64) w A0_3 l0_3.length l0_3) (hc0_3 : l0_3.length ≤ c0_3) (h : spec_sqLeft.f k a0_0 a0_1 l0_2 l0_3 = some r) :
  Calls Tryd.prog 45 #[.agg #[.int .i64 a0_0, .int .i64 a0_1, .slice A0_2 l0_2.length c0_2, .slice A0_3 l0_3.length c0_3]] w fun e w' => ∃ v0_ : Value, e = .returned v0_ ∧ Kd.R (Kd.int .i64) 3 w' w.heap.size (fun _ => True) v0_ r ∧ Below w.heap.size w w' := by
 unfold spec_sqLeft.f at h
 obtain ⟨PL, hPL, h⟩ := Option.bind_eq_some_iff.mp h
 obtain ⟨mask, hmask, h⟩ := Option.bind_eq_some_iff.mp h
 obtain ⟨n, hn, h⟩ := Option.bind_eq_some_iff.mp h
 by_cases hc : lftOK PL mask n = true
 ·rw [if_pos hc] at h
  obtain rfl := Option.some.inj h
  have hc2 := hc
  unfold lftOK at hc2
  simp only [Bool.and_eq_true, decide_eq_true_eq] at hc2
  obtain ⟨⟨⟨⟨⟨-, h2⟩, h3⟩, -⟩, h5⟩, -⟩ := hc2
  obtain ⟨M, rfl⟩ := Int.eq_ofNat_of_zero_le h3
  obtain ⟨N, rfl⟩ := Int.eq_ofNat_of_zero_le h5
  have HC := Aside0.mk hc
  have HPL := Aside0.mk hPL
  have HMASK := Aside0.mk hmask
  have HN := Aside0.mk hn
  have HR2 := Aside0.mk hr0_2
  have HR3 := Aside0.mk hr0_3
  have HQ2 := Aside0.mk hc0_2
  have HQ3 := Aside0.mk hc0_3
  clear hc hPL hmask hn hr0_2 hr0_3 hc0_2 hc0_3 h3 h5
  go_enter Tryd.func45, Tryd.ntmps45
  go_wp2_with fail
  have Q0 : (w.alloc (.cells #[.int .i64 a0_0, .int .i64 a0_1, .slice A0_2 l0_2.length c0_2, .slice A0_3 l0_3.length c0_3] 36)).heap[w.heap.size]? = some (.cells #[.int .i64 a0_0, .int .i64 a0_1, .slice A0_2 l0_2.length c0_2, .slice A0_3 l0_3.length c0_3] 36 (0, 0)) := heap_alloc_new w _
  have HB1 : Aside0 (Below w.heap.size w (w.alloc (.cells #[.int .i64 a0_0, .int .i64 a0_1, .slice A0_2 l0_2.length c0_2, .slice A0_3 l0_3.length c0_3] 36))) := ⟨below_alloc (Below.refl _ _) _⟩
  generalize (w.alloc (.cells #[.int .i64 a0_0, .int .i64 a0_1, .slice A0_2 l0_2.length c0_2, .slice A0_3 l0_3.length c0_3] 36)) = w1 at Q0 HB1 ⊢
  have q0 : w1.cell? ⟨w.heap.size, 0, none⟩ = some (.int .i64 a0_0) := (blk_cell Q0 0).trans rfl
  have q1 : w1.cell? ⟨w.heap.size, 1, none⟩ = some (.int .i64 a0_1) := (blk_cell Q0 1).trans rfl
  have q2 : w1.cell? ⟨w.heap.size, 2, none⟩ = some (.slice A0_2 l0_2.length c0_2) := (blk_cell Q0 2).trans rfl
  have q3 : w1.cell? ⟨w.heap.size, 3, none⟩ = some (.slice A0_3 l0_3.length c0_3) := (blk_cell Q0 3).trans rfl
  have hlt := (Array.getElem?_eq_some_iff.1 Q0).1
  clear Q0
  go_region_held3 (fun w' => w'.cell? ⟨w.heap.size, 0, none⟩ = some (.int .i64 a0_0) ∧ w'.cell? ⟨w.heap.size, 1, none⟩ = some (.int .i64 a0_1) ∧ w'.cell? ⟨w.heap.size, 2, none⟩ = some (.slice A0_2 l0_2.length c0_2) ∧ w'.cell? ⟨w.heap.size, 3, none⟩ = some (.slice A0_3 l0_3.length c0_3))
   (first | (exact ⟨q0, q1, q2, q3⟩) | (go_split_ands; exact ⟨pw_cell_below hbB (by assumption), pw_cell_below hbB (by assumption), pw_cell_below hbB (by assumption), pw_cell_below hbB (by assumption)⟩) | (go_split_ands; exact ⟨pw_cell_below hbA (by assumption), pw_cell_below hbA (by assumption), pw_cell_below hbA (by assumption), pw_cell_below hbA (by assumption)⟩))
   ((first
    | (go_at_call 49; refine (spec_sqAll.calls k a0_0 a0_1 PL _ HPL.out).mono ?_; rintro e wA ⟨vA, rfl, hrA, hbA⟩)
    | (go_at_call 50; refine (spec_sqMask.calls k a0_0 a0_1 _ _ l0_2 _ _ l0_3 (M : Int) _ (Kd.C_below HR2.out (below_step (below_drew HB1.out) hbA)) HQ2.out (Kd.C_below HR3.out (below_step (below_drew HB1.out) hbA)) HQ3.out HMASK.out).mono ?_; rintro e wB ⟨rfl, hbB⟩)))
  go_split_ands
  obtain ⟨A1, c1, rfl⟩ := Kd.R_slice hrA
  have HBB := Aside0.mk (below_step (below_step (below_drew HB1.out) hbA) hbB)
  have HRB := Aside0.mk (Kd.R_below hrA hbB)
  have HROW : Aside0 (∀ W : World, (∀ k, k < wB.heap.size → W.heap[k]? = wB.heap[k]?) → Kd.C k122 W A1 PL.length PL) := ⟨fun W hW => (Kd.R_reads' (Kd.R_move (Kd.R_bound HRB.out) (fun k hk => hW k hk.2.2.1))).2.2⟩
  have HC9 := Aside0.mk (Kd.R_reads' HRB.out).2
  clear q0 q1 q2 q3 hrA hbA hbB hlt HB1 HRB
  generalize hnl : PL.length = nl
  have HNL := Aside0.mk hnl
  clear hnl
  have HF : Aside0 (∀ W, Below wB.heap.size wB W → Calls Tryd.prog 48 #[.slice A1 nl c1, .int .i64 (M : Int)] W fun e w' => e = .returned (.int .i64 (N : Int)) ∧ Below W.heap.size W w') := ⟨fun W hW => by
   have h := spec_sqFewest.calls k A1 c1 PL (M : Int) (N : Int) W (HROW.out W (fun k hk => hW.block k hk)) HC9.out.1 HN.out
   rwa [HNL.out] at h⟩
  have HTK : Aside0 (∀ W, Below wB.heap.size wB W → W.cell? ⟨wB.heap.size, 0, none⟩ = some (.slice none 0 0) → W.frozen? ⟨wB.heap.size, 0, none⟩ = false → Calls Tryd.prog 92 #[.slice A1 nl c1, .int .i64 (M : Int), .int .i64 (N : Int), .pointer (some ⟨wB.heap.size, 0, none⟩)] W fun e w' => e = .returned (.tuple #[]) ∧ ∃ A' c', w'.cell? ⟨wB.heap.size, 0, none⟩ = some (.slice A' (lftL PL (M : Int) (N : Int)).length c') ∧ Kd.R (Kd.int .i64) 3 w' wB.heap.size (fun _ => True) (.slice A' (lftL PL (M : Int) (N : Int)).length c') (lftL PL (M : Int) (N : Int)) ∧ Below wB.heap.size wB w') := ⟨fun W hW h1 h2 => by
   have h := sqTakes_new PL M N HC.out A1 c1 wB HC9.out.2 HROW.out wB.heap.size W hW (Nat.le_refl _) h1 h2
   rwa [HNL.out] at h⟩
  obtain ⟨RES, hRES⟩ : ∃ RES, lftL PL (M : Int) (N : Int) = RES := ⟨_, rfl⟩
  rw [hRES] at HTK
  have HRES := Aside0.mk hRES
  clear hRES
  clear HC HN HROW HC9 HNL HPL HMASK
  go_wp2_with fail
  go_at_call 48
  refine (HF.out _ (below_alloc (Below.refl _ _) _)).mono ?_
  rintro e w3 ⟨rfl, hb3⟩
  have co : w3.cell? ⟨wB.heap.size, 0, none⟩ = some (.slice none 0 0) := (hb3.cell (by simp)).trans (World.cell?_alloc_at _ _ _ _ rfl)
  have fo : w3.frozen? ⟨wB.heap.size, 0, none⟩ = false := (hb3.frozen (by simp)).trans (by go_simp)
  have HB3 := Aside0.mk (below_step (below_alloc (Below.refl wB.heap.size wB) _) hb3)
  clear hb3
  go_wp2_with fail
  go_at_call 92
  refine (HTK.out _ HB3.out co fo).mono ?_
  rintro e w4 ⟨rfl, A', c', co4, hr4, hb4⟩
  have HR4 := Aside0.mk (Kd.R_lower hr4 HBB.out.size)
  have HB4 := Aside0.mk (HBB.out.trans (hb4.mono HBB.out.size))
  clear hr4 hb4 co fo
  go_wp2_with fail
  go_ret
  exact ⟨_, rfl, by rw [HRES.out]; exact HR4.out, HB4.out⟩
 ·rw [if_neg hc] at h
  cases h


def spec_CountToTake.f (k : Nat) (a0_0 : Int) (a0_1 : Int) (l0_2 : List Int) (l0_3 : List Int) : Option (Int × Bool) := (spec_sqFew.f k a0_0 a0_1 l0_2 l0_3).bind fun t226 => (if t226 = true then ((spec_sqLeft.f k a0_0 a0_1 l0_2 l0_3).bind fun t227 => (some ((t227.length : Int), true))) else (some (0, false)))
theorem spec_CountToTake.mono : ∀ a0 a1 a2 a3 k, LeO (spec_CountToTake.f k a0 a1 a2 a3) (spec_CountToTake.f (k + 1) a0 a1 a2 a3) := by
 intro a0 a1 a2 a3 k
 unfold spec_CountToTake.f
 repeat' first
   | (with_reducible exact spec_sqFew.mono _ _ _ _ _)
   | (with_reducible exact spec_sqLeft.mono _ _ _ _ _)
   | (with_reducible exact LeO.refl _)
   | (with_reducible exact LeO.none _)
   | (with_reducible refine LeO.ite ?_ ?_)
   | (with_reducible refine LeO.bind ?_ (fun _ => ?_))
   | exact spec_sqFew.mono _ _ _ _ _
   | exact spec_sqLeft.mono _ _ _ _ _
   | exact LeO.none _
   | refine LeO.ite ?_ ?_
   | refine LeO.bind ?_ (fun _ => ?_)
set_option maxHeartbeats 8000000 in
set_option maxRecDepth 100000 in
theorem spec_CountToTake.calls (k : Nat) (a0_0 : Int) (a0_1 : Int) (A0_2 : Option Addr) (c0_2 : Nat) (l0_2 : List Int) (A0_3 : Option Addr) (c0_3 : Nat) (l0_3 : List Int) (r1 : Int) (r2 : Bool) (w : World) (hr0_2 : Kd.C (Kd.int .i64) w A0_2 l0_2.length l0_2) (hc0_2 : l0_2.length ≤ c0_2) (hr0_3 : Kd.C (Kd.int .i64) w A0_3 l0_3.length l0_3) (hc0_3 : l0_3.length ≤ c0_3) (h : spec_CountToTake.f k a0_0 a0_1 l0_2 l0_3 = some (r1, r2)) :
  Calls Tryd.prog 15 #[.agg #[.int .i64 a0_0, .int .i64 a0_1, .slice A0_2 l0_2.length c0_2, .slice A0_3 l0_3.length c0_3]] w fun e w' => e = .returned (.tuple #[.int .i64 r1, .bool r2]) ∧ Below w.heap.size w w' := by
 have hu36 := Tryd.underlying36
 have HR0_2 := Aside0.mk hr0_2
 have HC0_2 := Aside0.mk hc0_2
 clear hr0_2 hc0_2
 have HR0_3 := Aside0.mk hr0_3
 have HC0_3 := Aside0.mk hc0_3
 clear hr0_3 hc0_3
 have HB := Aside0.mk (Below.refl w.heap.size w)
 have H : ((spec_sqFew.f k a0_0 a0_1 l0_2 l0_3).bind fun t226 => (if t226 = true then ((spec_sqLeft.f k a0_0 a0_1 l0_2 l0_3).bind fun t227 => (some ((t227.length : Int), true))) else (some (0, false)))) = some (r1, r2) := h
 clear h
 replace H := Option.bind_eq_some_iff.mp H
 obtain ⟨t226, A20, H⟩ := H
 replace H : (if t226 = true then ((spec_sqLeft.f k a0_0 a0_1 l0_2 l0_3).bind fun t227 => (some ((t227.length : Int), true))) else (some (0, false))) = some (r1, r2) := H
 have A2 := Aside0.mk A20
 clear A20
 by_cases c3 : t226 = true
 ·subst c3
  have H1 : ((spec_sqLeft.f k a0_0 a0_1 l0_2 l0_3).bind fun t227 => (some ((t227.length : Int), true))) = some (r1, r2) := by rw [if_pos rfl] at H; exact H
  clear H
  have H := H1
  clear H1
  replace H := Option.bind_eq_some_iff.mp H
  obtain ⟨t227, A40, H⟩ := H
  replace H : (some ((t227.length : Int), true)) = some (r1, r2) := H
  have A4 := Aside0.mk A40
  clear A40
  simp only [Option.some.injEq, Prod.mk.injEq] at H
  obtain ⟨rfl, rfl⟩ := H
  go_enter Tryd.func15, Tryd.ntmps15
  go_wp2_with (first | ((with_reducible refine gate_dst (N := 1) rfl ?_); refine boxE_ (N := 1) (cs := #[.int .i64 a0_0, .int .i64 a0_1, .slice A0_2 l0_2.length c0_2, .slice A0_3 l0_3.length c0_3]) (t := 36) ?_; intro gb225 hg w5 hbox hb; have n0_ := Aside0.mk (below_step (bl0_ HB.out) hb); have n1_ := Aside0.mk (hbox); have n2_ := Aside0.mk ((bs0_ hg HB.out : w.heap.size ≤ gb225)); have n3_ := Aside0.mk ((bs0_ hg HB.out : w.heap.size ≤ gb225)); clear HB; have HB := n0_; have BK225 := n1_; have GW225 := n2_; have GE225 := n3_; clear n0_ n1_ n2_ n3_; clear hb hbox hg; have hcz6_0 : w5.cell? ⟨gb225, 0, none⟩ = some (.int .i64 a0_0) := (blk_cell BK225.out 0).trans rfl; have hcz6_1 : w5.cell? ⟨gb225, 1, none⟩ = some (.int .i64 a0_1) := (blk_cell BK225.out 1).trans rfl; have hcz6_2 : w5.cell? ⟨gb225, 2, none⟩ = some (.slice A0_2 l0_2.length c0_2) := (blk_cell BK225.out 2).trans rfl; have hcz6_3 : w5.cell? ⟨gb225, 3, none⟩ = some (.slice A0_3 l0_3.length c0_3) := (blk_cell BK225.out 3).trans rfl; have hfz6_0 := blk_frozen BK225.out 0; have hfz6_1 := blk_frozen BK225.out 1; have hfz6_2 := blk_frozen BK225.out 2; have hfz6_3 := blk_frozen BK225.out 3) | ((with_reducible refine gate_callee (f := 44) rfl ?_); refine goesL_ (some 5) rfl rfl Tryd.func44 (by kernel_rfl) rfl #[.agg #[.int .i64 a0_0, .int .i64 a0_1, .slice A0_2 l0_2.length c0_2, .slice A0_3 l0_3.length c0_3]] rfl ob_ ?_; (with_reducible refine (spec_sqFew.calls k a0_0 a0_1 _ _ l0_2 _ _ l0_3 true _ ?side1 ?side2 ?side3 ?side4 A2.out).mono ?_); (case side1 => exact kc_ (Kd.C_below HR0_2.out HB.out)); (case side2 => exact HC0_2.out); (case side3 => exact kc_ (Kd.C_below HR0_3.out HB.out)); (case side4 => exact HC0_3.out); rintro e w7 ⟨rfl, hb⟩; refine ⟨_, rfl, ?_⟩; have n0_ := Aside0.mk (bb_ BK225.out hb); have n1_ := Aside0.mk (below_step (bl1_ HB.out GE225.out) hb); clear BK225; clear HB; have BK225 := n0_; have HB := n1_; clear n0_ n1_; (try clear hb); (try clear hb2); (try clear hk); (try clear hi); have hcz8_0 : w7.cell? ⟨gb225, 0, none⟩ = some (.int .i64 a0_0) := (blk_cell BK225.out 0).trans rfl; have hcz8_1 : w7.cell? ⟨gb225, 1, none⟩ = some (.int .i64 a0_1) := (blk_cell BK225.out 1).trans rfl; have hcz8_2 : w7.cell? ⟨gb225, 2, none⟩ = some (.slice A0_2 l0_2.length c0_2) := (blk_cell BK225.out 2).trans rfl; have hcz8_3 : w7.cell? ⟨gb225, 3, none⟩ = some (.slice A0_3 l0_3.length c0_3) := (blk_cell BK225.out 3).trans rfl; have hfz8_0 := blk_frozen BK225.out 0; have hfz8_1 := blk_frozen BK225.out 1; have hfz8_2 := blk_frozen BK225.out 2; have hfz8_3 := blk_frozen BK225.out 3) | ((with_reducible refine gate_callee (f := 45) rfl ?_); refine goesL_ (some 8) rfl rfl Tryd.func45 (by kernel_rfl) rfl #[.agg #[.int .i64 a0_0, .int .i64 a0_1, .slice A0_2 l0_2.length c0_2, .slice A0_3 l0_3.length c0_3]] rfl ob_ ?_; (with_reducible refine (spec_sqLeft.calls k a0_0 a0_1 _ _ l0_2 _ _ l0_3 t227 _ ?side1 ?side2 ?side3 ?side4 A4.out).mono ?_); (case side1 => exact kc_ (Kd.C_below HR0_2.out HB.out)); (case side2 => exact HC0_2.out); (case side3 => exact kc_ (Kd.C_below HR0_3.out HB.out)); (case side4 => exact HC0_3.out); rintro e w9 ⟨v228, rfl, ho0, hb⟩; refine ⟨_, rfl, ?_⟩; have n0_ := Aside0.mk (Kd.R_lower ho0 (below_size (bl1_ HB.out GE225.out))); have n1_ := Aside0.mk (bb_ BK225.out hb); have n2_ := Aside0.mk (below_step (bl1_ HB.out GE225.out) hb); clear BK225; clear HB; have HO229 := n0_; have BK225 := n1_; have HB := n2_; clear n0_ n1_ n2_; (try clear hb); (try clear hb2); (try clear hk); (try clear hi); (try clear ho0); obtain ⟨Ao10, co10, eo10⟩ := Kd.R_slice HO229.out; subst eo10))
  go_ret2
  exact ⟨er_, bl1_ HB.out GE225.out⟩
 ·replace c3 := Bool.eq_false_iff.mpr c3
  subst c3
  have H1 : (some (0, false)) = some (r1, r2) := by rw [if_neg (show ¬ (false = true) by decide)] at H; exact H
  clear H
  have H := H1
  clear H1
  simp only [Option.some.injEq, Prod.mk.injEq] at H
  obtain ⟨rfl, rfl⟩ := H
  go_enter Tryd.func15, Tryd.ntmps15
  go_wp2_with (first | ((with_reducible refine gate_dst (N := 1) rfl ?_); refine boxE_ (N := 1) (cs := #[.int .i64 a0_0, .int .i64 a0_1, .slice A0_2 l0_2.length c0_2, .slice A0_3 l0_3.length c0_3]) (t := 36) ?_; intro gb225 hg w11 hbox hb; have n0_ := Aside0.mk (below_step (bl0_ HB.out) hb); have n1_ := Aside0.mk (hbox); have n2_ := Aside0.mk ((bs0_ hg HB.out : w.heap.size ≤ gb225)); have n3_ := Aside0.mk ((bs0_ hg HB.out : w.heap.size ≤ gb225)); clear HB; have HB := n0_; have BK225 := n1_; have GW225 := n2_; have GE225 := n3_; clear n0_ n1_ n2_ n3_; clear hb hbox hg; have hcz12_0 : w11.cell? ⟨gb225, 0, none⟩ = some (.int .i64 a0_0) := (blk_cell BK225.out 0).trans rfl; have hcz12_1 : w11.cell? ⟨gb225, 1, none⟩ = some (.int .i64 a0_1) := (blk_cell BK225.out 1).trans rfl; have hcz12_2 : w11.cell? ⟨gb225, 2, none⟩ = some (.slice A0_2 l0_2.length c0_2) := (blk_cell BK225.out 2).trans rfl; have hcz12_3 : w11.cell? ⟨gb225, 3, none⟩ = some (.slice A0_3 l0_3.length c0_3) := (blk_cell BK225.out 3).trans rfl; have hfz12_0 := blk_frozen BK225.out 0; have hfz12_1 := blk_frozen BK225.out 1; have hfz12_2 := blk_frozen BK225.out 2; have hfz12_3 := blk_frozen BK225.out 3) | ((with_reducible refine gate_callee (f := 44) rfl ?_); refine goesL_ (some 5) rfl rfl Tryd.func44 (by kernel_rfl) rfl #[.agg #[.int .i64 a0_0, .int .i64 a0_1, .slice A0_2 l0_2.length c0_2, .slice A0_3 l0_3.length c0_3]] rfl ob_ ?_; (with_reducible refine (spec_sqFew.calls k a0_0 a0_1 _ _ l0_2 _ _ l0_3 false _ ?side1 ?side2 ?side3 ?side4 A2.out).mono ?_); (case side1 => exact kc_ (Kd.C_below HR0_2.out HB.out)); (case side2 => exact HC0_2.out); (case side3 => exact kc_ (Kd.C_below HR0_3.out HB.out)); (case side4 => exact HC0_3.out); rintro e w13 ⟨rfl, hb⟩; refine ⟨_, rfl, ?_⟩; have n0_ := Aside0.mk (bb_ BK225.out hb); have n1_ := Aside0.mk (below_step (bl1_ HB.out GE225.out) hb); clear BK225; clear HB; have BK225 := n0_; have HB := n1_; clear n0_ n1_; (try clear hb); (try clear hb2); (try clear hk); (try clear hi)))
  go_ret2
  exact ⟨er_, bl1_ HB.out GE225.out⟩


theorem least_le (P : Nat → Prop) : ∀ n, (∃ i, i ≤ n ∧ P i) → ∃ K, K ≤ n ∧ P K ∧ ∀ j, j < K → ¬ P j
  | 0, ⟨i, hi, h⟩ => by
    obtain rfl : i = 0 := by omega
    exact ⟨0, Nat.le_refl _, h, fun j hj => absurd hj (Nat.not_lt_zero j)⟩
  | n + 1, ⟨i, hi, h⟩ => by
    by_cases hn : ∃ j, j ≤ n ∧ P j
    · obtain ⟨K, h1, h2, h3⟩ := least_le P n hn
      exact ⟨K, by omega, h2, h3⟩
    · have e : i = n + 1 := by
        rcases Nat.lt_or_ge i (n + 1) with h4 | h4
        · exact absurd ⟨i, by omega, h⟩ hn
        · omega
      rw [e] at h
      exact ⟨n + 1, Nat.le_refl _, h, fun j hj hp => hn ⟨j, by omega, hp⟩⟩
theorem hitW_some {Ls : List Nat} (hL : ∀ s ∈ Ls, s ≠ 0 ∧ s < 2 ^ 60) : ∀ (m ch : Nat), ch < 2 ^ 60 → 60 ≤ popB 60 ch + m → hitW Ls m ch ≠ [] := by
  intro m
  induction m with
  | zero =>
    intro ch hc hp
    rcases hm : missF Ls ch with _ | s
    · rw [hitW_none hm]; simp
    · exfalso
      obtain ⟨h0, h60⟩ := hL s (missF_mem hm)
      obtain ⟨q1, q2, -⟩ := low_bits s h0 h60
      have := popB_or 60 ch _ q1 (free_bit (missF_free hm) q2)
      have := popB_le 60 (ch ||| 2 ^ Lib.ctz 64 s)
      omega
  | succ m ih =>
    intro ch hc hp
    rcases hm : missF Ls ch with _ | s
    · rw [hitW_none hm]; simp
    · obtain ⟨h0, h60⟩ := hL s (missF_mem hm)
      obtain ⟨q1, q2, -⟩ := low_bits s h0 h60
      have h1 := popB_or 60 ch _ q1 (free_bit (missF_free hm) q2)
      have h2 := ih (ch ||| 2 ^ Lib.ctz 64 s) (Nat.or_lt_two_pow hc (pow_lt60 q1)) (by omega)
      rw [hitW_succ hm]
      intro h3
      rw [List.flatMap_eq_nil_iff] at h3
      have h4 := h3 ((Lib.ctz 64 s : Nat) : Int) (by unfold bitsI; rw [bitsN_step s h0 h60]; simp)
      rw [Int.toNat_natCast] at h4
      exact h2 h4
theorem hitW_least {Ls : List Nat} (hL : ∀ s ∈ Ls, s ≠ 0 ∧ s < 2 ^ 60) : ∃ K, K ≤ 60 ∧ hitW Ls K 0 ≠ [] ∧ ∀ j, j < K → hitW Ls j 0 = [] := by
  obtain ⟨K, h1, h2, h3⟩ := least_le (fun m => hitW Ls m 0 ≠ []) 60 ⟨60, Nat.le_refl _, hitW_some hL 60 0 (by decide) (by rw [popB_zero]; omega)⟩
  exact ⟨K, h1, h2, fun j hj => Decidable.byContradiction fun h => h3 j hj h⟩


def sqsPos (w h : Nat) : Bool := match impl_grid_squares.f 200 (w : Int) (h : Int) with | some L => L.all (fun q => decide (0 < q.f3)) | none => false
theorem sqp_all : ((List.range 4).all fun a => (List.range 4).all fun b => sqsPos (a + 1) (b + 1)) = true := by decide +kernel
theorem sqsPos_of (w h : Nat) (h1 : 1 ≤ w) (h2 : w ≤ 4) (h3 : 1 ≤ h) (h4 : h ≤ 4) : sqsPos w h = true := by
  have h5 := List.all_eq_true.1 (List.all_eq_true.1 sqp_all (w - 1) (List.mem_range.2 (by omega))) (h - 1) (List.mem_range.2 (by omega))
  rw [show w - 1 + 1 = w by omega, show h - 1 + 1 = h by omega] at h5
  exact h5


def spec_FewestToTake.f (k : Nat) (a0_0 : Int) (a0_1 : Int) (l0_2 : List Int) (l0_3 : List Int) : Option (Int × Bool) := (spec_sqFew.f k a0_0 a0_1 l0_2 l0_3).bind fun t164 => (if t164 = true then ((spec_sqAll.f k a0_0 a0_1).bind fun t165 => ((spec_sqMask.f k a0_0 a0_1 l0_2 l0_3).bind fun t168 => ((spec_sqFewest.f k t165 t168).bind fun t169 => (some (t169, true))))) else (some (0, false)))
theorem spec_FewestToTake.mono : ∀ a0 a1 a2 a3 k, LeO (spec_FewestToTake.f k a0 a1 a2 a3) (spec_FewestToTake.f (k + 1) a0 a1 a2 a3) := by
  intro a0 a1 a2 a3 k
  unfold spec_FewestToTake.f
  repeat' first
      | (with_reducible exact spec_sqAll.mono _ _ _)
      | (with_reducible exact spec_sqFew.mono _ _ _ _ _)
      | (with_reducible exact spec_sqFewest.mono _ _ _)
      | (with_reducible exact spec_sqMask.mono _ _ _ _ _)
      | (with_reducible exact LeO.refl _)
      | (with_reducible exact LeO.none _)
      | (with_reducible refine LeO.ite ?_ ?_)
      | (with_reducible refine LeO.bind ?_ (fun _ => ?_))
      | exact spec_sqAll.mono _ _ _
      | exact spec_sqFew.mono _ _ _ _ _
      | exact spec_sqFewest.mono _ _ _
      | exact spec_sqMask.mono _ _ _ _ _
      | exact LeO.none _
      | refine LeO.ite ?_ ?_
      | refine LeO.bind ?_ (fun _ => ?_)
def spec_FewestToTake.T3 : Bool × List (List Nat × List Nat) := (true, [([], []), ([0], [0]), ([], []), ([2], [2]), ([1, 3], [1, 3]), ([], []), ([5, 4], [5]), ([4, 6, 6], [4, 6]), ([7, 7, 0, 1, 2, 3, 4, 5, 6, 7], [7]), ([8, 0, 1, 2, 3, 4, 5, 6, 7, 8], [])])
def spec_FewestToTake.B3 : List Nat := [0, 1, 0, 4, 15, 0, 63, 127, 255, 511]

theorem sqFewest_l0 {PL : List S122} {E : List Nat} (h : PL.map (fun q => q.f3) = E.map (fun n : Nat => (n : Int))) (hE : ∀ e ∈ E, e < 2 ^ 60) (hl : E.length ≤ 30) (M : Nat) (hM : M < 2 ^ 60) {K : Nat} (hK : K ≤ 60) (hne : hitW (E.filter fun e => subE e M) K 0 ≠ []) (hmin : ∀ j, j < K → hitW (E.filter fun e => subE e M) j 0 = []) :
    ∀ (d j k : Nat), K - j = d → j ≤ K → 13000 + d < k → spec_sqFewest.l0 k PL (M : Int) (j : Int) = some (K : Int) := by
  intro d
  induction d with
  | zero =>
    intro j k h1 h2 hk
    obtain rfl : j = K := by omega
    obtain ⟨k, rfl⟩ : ∃ q, k = q + 1 := ⟨k - 1, by omega⟩
    have hs := sqHit_f h hE hl M hM j k 0 (by omega) (by omega) (by decide)
    rw [diffN_none] at hs
    have he : (hitW (E.filter fun e => subE e M) j 0).isEmpty = false := by
      cases hh : hitW (E.filter fun e => subE e M) j 0 with
      | nil => exact absurd hh hne
      | cons a t => rfl
    rw [spec_sqFewest.l0, hs, he, Option.bind_some, if_pos (show (!false) = true from rfl)]
  | succ d ih =>
    intro j k h1 h2 hk
    obtain ⟨k, rfl⟩ : ∃ q, k = q + 1 := ⟨k - 1, by omega⟩
    have hs := sqHit_f h hE hl M hM j k 0 (by omega) (by omega) (by decide)
    rw [diffN_none, hmin j (by omega)] at hs
    have hw : wrap64 ((j : Int) + 1) = ((j + 1 : Nat) : Int) := by clear ih hs; unfold wrap64; omega
    rw [spec_sqFewest.l0, hs, Option.bind_some, if_neg (by simp), hw]
    exact ih (j + 1) k (by omega) (by omega) (by omega)
def FewOK (w h : Int) (a u : List Int) (K : Nat) (qs : List S118) : Prop :=
  impl_Figure_squares.f 4000001 w h a u = some qs ∧ (∀ q ∈ qs, 0 ≤ q.f3 ∧ q.f3 < 2 ^ 40) ∧ qs.length ≤ 1000000 ∧ K ≤ 64 ∧ hitW (qs.map fun q => q.f3.toNat) K 0 ≠ [] ∧ ∀ j, j < K → hitW (qs.map fun q => q.f3.toNat) j 0 = []
def sqs40 (w h : Nat) : Bool := match impl_grid_squares.f 200 (w : Int) (h : Int) with | some L => L.all (fun q => decide (q.f3 < 2 ^ 40)) | none => false
theorem sq40_all : ((List.range 4).all fun a => (List.range 4).all fun b => sqs40 (a + 1) (b + 1)) = true := by decide +kernel
theorem sqs40_of (w h : Nat) (h1 : 1 ≤ w) (h2 : w ≤ 4) (h3 : 1 ≤ h) (h4 : h ≤ 4) : sqs40 w h = true := by
  have h5 := List.all_eq_true.1 (List.all_eq_true.1 sq40_all (w - 1) (List.mem_range.2 (by omega))) (h - 1) (List.mem_range.2 (by omega))
  rw [show w - 1 + 1 = w by omega, show h - 1 + 1 = h by omega] at h5
  exact h5
theorem figB_grid {w h : Int} {a u : List Int} (hf : figB w h a u = true) : 1 ≤ w ∧ w ≤ 4 ∧ 1 ≤ h ∧ h ≤ 4 := by
  unfold figB at hf
  simp only [Bool.and_eq_true] at hf
  obtain ⟨hg, -, -, -, -⟩ := hf
  exact grid_bounds (by simp only [Bool.and_eq_true]; exact hg)

theorem bitsFrom_lt40 (s : Nat) (l : List Int) : ∀ m, m < 2 ^ 40 → (∀ k ∈ l, s + k.toNat < 40) → bitsFrom s l m < 2 ^ 40 := by
  induction l with
  | nil => intro m hm _; exact hm
  | cons a t ih =>
    intro m hm h
    exact ih _ (Nat.or_lt_two_pow hm (Nat.pow_lt_pow_right (by decide) (h a (by simp)))) (fun k hk => h k (by simp [hk]))
theorem figMask_lt40 {w h : Int} {a u : List Int} (hf : figB w h a u = true) : figMask w h a u < 2 ^ 40 := by
  unfold figB at hf
  simp only [Bool.and_eq_true] at hf
  obtain ⟨hg, -, -, hi1, hi2⟩ := hf
  obtain ⟨b1, b2, b3, b4⟩ := grid_bounds (by simp only [Bool.and_eq_true]; exact hg)
  obtain ⟨c1, c2, c3, c4⟩ := area_bounds b1 b2 b3 b4
  refine bitsFrom_lt40 _ _ _ (bitsFrom_lt40 _ _ _ (by decide) (fun k hk => ?_)) (fun k hk => ?_)
  · have := inB_mem hi1 k hk; omega
  · have := inB_mem hi2 k hk; omega
theorem few_no {w h : Int} {a u : List Int} (ha : a.length ≤ 1000000) (hu : u.length ≤ 1000000) (hn : ¬ (figB w h a u = true ∧ wrap64 (w * h) ≤ 9)) :
    spec_sqFew.f 4000001 w h a u = some false ∧ impl_isFew.f 4000001 w h a u = some false := by
  unfold spec_sqFew.f impl_isFew.f
  rw [fiGood_f w h a u ha hu _ (by decide), IsFigure_f w h a u ha hu _ (by decide)]
  cases hf : figB w h a u with
  | false => exact ⟨rfl, rfl⟩
  | true =>
    have h9 : ¬ wrap64 (w * h) ≤ 9 := fun h9 => hn ⟨hf, h9⟩
    have e : decide (wrap64 (w * h) ≤ 9) = false := decide_eq_false h9
    exact ⟨congrArg some e, congrArg some e⟩
structure FewCore (w h : Int) (a u : List Int) (K : Nat) (E : List Nat) (qs : List S118) (PL : List S122) : Prop where
  all : spec_sqAll.f 4000001 w h = some PL
  mask : spec_sqMask.f 4000001 w h a u = some ((figMask w h a u : Nat) : Int)
  few : spec_sqFewest.f 4000001 PL ((figMask w h a u : Nat) : Int) = some (K : Int)
  k60 : K ≤ 60
  eqs : PL.map (fun q => q.f3) = E.map (fun n : Nat => (n : Int))
  e60 : ∀ e ∈ E, e < 2 ^ 60
  e30 : E.length ≤ 30
  qsE : (qs.map fun q => q.f3.toNat) = E.filter fun e => subE e (figMask w h a u)
  fok : FewOK w h a u K qs
  sfew : spec_sqFew.f 4000001 w h a u = some true
  ifew : impl_isFew.f 4000001 w h a u = some true
theorem few_yes {w h : Int} {a u : List Int} (ha : a.length ≤ 1000000) (hu : u.length ≤ 1000000) (hf : figB w h a u = true) (h9 : wrap64 (w * h) ≤ 9) :
    ∃ K E qs PL, FewCore w h a u K E qs PL := by
  obtain ⟨gw1, gw4, gh1, gh4⟩ := figB_grid hf
  have hM60 := figMask_lt hf
  obtain ⟨L, PL, E, hL, hP, hLE, hPE, hE, hl⟩ := squares_f gw1 gw4 gh1 gh4 200 (by decide)
  have hEl : E.length ≤ 30 := by have := congrArg List.length hLE; simp at this; omega
  have hwn := Int.toNat_of_nonneg (show 0 ≤ w by omega)
  have hhn := Int.toNat_of_nonneg (show 0 ≤ h by omega)
  have hpos : ∀ e ∈ E, e ≠ 0 := by
    have hp := sqsPos_of w.toNat h.toNat (by omega) (by omega) (by omega) (by omega)
    unfold sqsPos at hp
    rw [hwn, hhn, hL] at hp
    simp only [List.all_eq_true, decide_eq_true_eq] at hp
    intro e he h0
    have : ((e : Nat) : Int) ∈ L.map (fun q => q.f3) := by rw [hLE]; exact List.mem_map.2 ⟨e, he, rfl⟩
    obtain ⟨q, hq, hqe⟩ := List.mem_map.1 this
    have := hp q hq
    omega
  have h40 : ∀ q ∈ L, 0 ≤ q.f3 ∧ q.f3 < 2 ^ 40 := by
    have hp := sqs40_of w.toNat h.toNat (by omega) (by omega) (by omega) (by omega)
    unfold sqs40 at hp
    rw [hwn, hhn, hL] at hp
    simp only [List.all_eq_true, decide_eq_true_eq] at hp
    intro q hq
    refine ⟨?_, hp q hq⟩
    have : q.f3 ∈ L.map (fun q => q.f3) := List.mem_map.2 ⟨q, hq, rfl⟩
    rw [hLE] at this
    obtain ⟨e, -, he⟩ := List.mem_map.1 this
    omega
  have hLk : impl_grid_squares.f 4000001 w h = some L := up_rounds (fun k => impl_grid_squares.mono _ _ k) (by decide) hL
  have hPk : spec_sqAll.f 4000001 w h = some PL := up_rounds (fun k => spec_sqAll.mono _ _ k) (by decide) hP
  obtain ⟨qs, o1, o2, o3⟩ := of_f hLE hE hl (figMask w h a u) hM60
  have hqs : (qs.map fun q => q.f3.toNat) = E.filter fun e => subE e (figMask w h a u) := by
    have h1 : (qs.map fun q => q.f3.toNat) = (qs.map fun q => q.f3).map Int.toNat := by rw [List.map_map]; rfl
    rw [h1, o2, List.map_map]
    exact List.map_id'' (fun n => Int.toNat_natCast n) _
  obtain ⟨K, k1, k2, k3⟩ := hitW_least (Ls := E.filter fun e => subE e (figMask w h a u)) (fun s hs => ⟨hpos s (List.mem_filter.1 hs).1, hE s (List.mem_filter.1 hs).1⟩)
  refine ⟨K, E, qs, PL, ⟨hPk, sqMask_f hf ha hu _ (by decide), ?_, by omega, hPE, hE, hEl, hqs, ⟨?_, ?_, ?_, by omega, by rw [hqs]; exact k2, by rw [hqs]; exact k3⟩, ?_, ?_⟩⟩
  · unfold spec_sqFewest.f
    rw [show (0 : Int) = ((0 : Nat) : Int) from rfl]
    exact sqFewest_l0 hPE hE hEl (figMask w h a u) hM60 k1 k2 k3 K 0 4000001 (by omega) (Nat.zero_le _) (by omega)
  · unfold impl_Figure_squares.f impl_Figure_grid.f
    rw [Option.bind_some, hLk, Option.bind_some, set_f hf ha hu _ (by decide), Option.bind_some, o1, Option.bind_some]
  · intro q hq
    rw [o3] at hq
    exact h40 q (List.mem_filter.1 hq).1
  · rw [o3]
    exact Nat.le_trans (List.length_filter_le _ _) (by omega)
  · unfold spec_sqFew.f
    rw [fiGood_f w h a u ha hu _ (by decide), hf, Option.bind_some, if_pos rfl, decide_eq_true h9]
  · unfold impl_isFew.f
    rw [IsFigure_f w h a u ha hu _ (by decide), hf, Option.bind_some, if_pos rfl, decide_eq_true h9]


theorem hitW_sub {Ls : List Nat} {M : Nat} (hL : ∀ s ∈ Ls, subE s M = true) : ∀ (m ch : Nat), subE ch M = true → ∀ z ∈ hitW Ls m ch, subE z M = true := by
  intro m
  induction m with
  | zero =>
    intro ch hc z hz
    rcases hm : missF Ls ch with _ | s
    · rw [hitW_none hm, List.mem_singleton] at hz; rw [hz]; exact hc
    · rw [hitW_zero hm] at hz; cases hz
  | succ m ih =>
    intro ch hc z hz
    rcases hm : missF Ls ch with _ | s
    · rw [hitW_none hm, List.mem_singleton] at hz; rw [hz]; exact hc
    · rw [hitW_succ hm, List.mem_flatMap] at hz
      obtain ⟨x, hx, hz⟩ := hz
      refine ih _ ?_ z hz
      rw [subE_test] at hc ⊢
      intro i hi
      rw [Nat.testBit_or, Bool.or_eq_true] at hi
      rcases hi with hi | hi
      · exact hc i hi
      · rw [Nat.testBit_two_pow] at hi
        have hi2 : x.toNat = i := by simpa using hi
        have h1 := subE_test.1 (hL s (missF_mem hm)) x.toNat (bitsI_test hx).2
        rw [hi2] at h1; exact h1
theorem diffN_inj {M a b : Nat} (ha : subE a M = true) (hb : subE b M = true) (h : diffN M a = diffN M b) : a = b := by
  rw [subE_test] at ha hb
  apply Nat.eq_of_testBit_eq
  intro i
  have h1 : (diffN M a).testBit i = (diffN M b).testBit i := by rw [h]
  rw [diffN_test, diffN_test] at h1
  cases hm : M.testBit i with
  | true =>
    rw [hm] at h1
    cases ha2 : a.testBit i <;> cases hb2 : b.testBit i <;> simp [ha2, hb2] at h1 ⊢
  | false =>
    have e1 : a.testBit i = false := by
      cases h2 : a.testBit i with
      | false => rfl
      | true => rw [ha i h2] at hm; cases hm
    have e2 : b.testBit i = false := by
      cases h2 : b.testBit i with
      | false => rfl
      | true => rw [hb i h2] at hm; cases hm
    rw [e1, e2]
theorem putN_addS {M : Nat} : ∀ (ws : List Nat) (acc : List Int) (S : List Nat), (∀ z ∈ ws, subE z M = true) → acc.length = S.length → (∀ x, subE x M = true → (((diffN M x : Nat) : Int) ∈ acc ↔ x ∈ S)) →
    ((ints (ws.map (diffN M))).foldl putN acc).length = (addS S ws).length ∧ ∀ x, subE x M = true → (((diffN M x : Nat) : Int) ∈ (ints (ws.map (diffN M))).foldl putN acc ↔ x ∈ addS S ws)
  | [], acc, S, _, h1, h2 => ⟨h1, h2⟩
  | c :: ws, acc, S, hw, h1, h2 => by
    have hc := hw c List.mem_cons_self
    have hcc := h2 c hc
    show ((ints (ws.map (diffN M))).foldl putN (putN acc ((diffN M c : Nat) : Int))).length = (addS (if c ∈ S then S else c :: S) ws).length ∧ ∀ x, subE x M = true → (((diffN M x : Nat) : Int) ∈ (ints (ws.map (diffN M))).foldl putN (putN acc ((diffN M c : Nat) : Int)) ↔ x ∈ addS (if c ∈ S then S else c :: S) ws)
    refine putN_addS ws _ _ (fun z hz => hw z (List.mem_cons_of_mem _ hz)) ?_ ?_
    · unfold putN
      by_cases h : c ∈ S
      · rw [if_pos h, if_pos (hcc.2 h)]; exact h1
      · rw [if_neg h, if_neg (fun hh => h (hcc.1 hh))]; simp [h1]
    · intro x hx
      unfold putN
      by_cases h : c ∈ S
      · rw [if_pos h, if_pos (hcc.2 h)]; exact h2 x hx
      · rw [if_neg h, if_neg (fun hh => h (hcc.1 hh)), List.mem_append, List.mem_singleton, List.mem_cons, h2 x hx]
        constructor
        · rintro (h | h)
          · exact .inr h
          · exact .inl (diffN_inj hx hc (Int.ofNat.inj h))
        · rintro (rfl | h)
          · exact .inr rfl
          · exact .inl h
theorem sqLeft_f {w h : Int} {a u : List Int} {K : Nat} {E : List Nat} {qs : List S118} {PL : List S122} (hf : figB w h a u = true) (c : FewCore w h a u K E qs PL) :
    spec_sqLeft.f 4000001 w h a u = some ((ints ((hitW (qs.map fun q => q.f3.toNat) K 0).map (diffN (figMask w h a u)))).foldl putN []) := by
  have hM := figMask_lt40 hf
  unfold spec_sqLeft.f
  rw [c.all, Option.bind_some, c.mask, Option.bind_some, c.few, Option.bind_some]
  have hPn : (PL.map fun q => q.f3.toNat) = E := by
    have h1 : (PL.map fun q => q.f3.toNat) = (PL.map fun q => q.f3).map Int.toNat := by rw [List.map_map]; rfl
    rw [h1, c.eqs, List.map_map]
    exact List.map_id'' (fun n => Int.toNat_natCast n) _
  have hlen : PL.length = E.length := by have := congrArg List.length c.eqs; simpa using this
  have hok : lftOK PL ((figMask w h a u : Nat) : Int) (K : Int) = true := by
    unfold lftOK
    have h1 : PL.all (fun q => decide (0 ≤ q.f3) && decide (q.f3 < 1152921504606846976)) = true := by
      rw [List.all_eq_true]
      intro q hq
      have h2 : q.f3 ∈ PL.map (fun q => q.f3) := List.mem_map.2 ⟨q, hq, rfl⟩
      rw [c.eqs] at h2
      obtain ⟨e, he, h3⟩ := List.mem_map.1 h2
      have h4 := lit60 (c.e60 e he)
      rw [← h3, Bool.and_eq_true, decide_eq_true_iff, decide_eq_true_iff]
      exact ⟨Int.natCast_nonneg _, h4⟩
    have hk := c.k60
    have he := c.e30
    rw [h1, decide_eq_true (show PL.length ≤ 1000000 by omega), decide_eq_true (Int.natCast_nonneg (figMask w h a u)), decide_eq_true (show ((figMask w h a u : Nat) : Int) < 1099511627776 by omega), decide_eq_true (Int.natCast_nonneg K), decide_eq_true (show (K : Int) ≤ 64 by omega)]
    rfl
  rw [if_pos hok]
  unfold lftL leftW
  rw [Int.toNat_natCast, Int.toNat_natCast, hPn, ← c.qsE]
theorem CountToTake_pure {w h : Int} {a u : List Int} (ha : a.length ≤ 1000000) (hu : u.length ≤ 1000000) :
    (spec_CountToTake.f 4000001 w h a u = some (0, false) ∧ impl_isFew.f 4000001 w h a u = some false) ∨
    (∃ (K : Nat) (qs : List S118), spec_CountToTake.f 4000001 w h a u = some ((((addS [] (hitW (qs.map fun q => q.f3.toNat) K 0)).length : Nat) : Int), true) ∧ impl_isFew.f 4000001 w h a u = some true ∧ FewOK w h a u K qs) := by
  by_cases hy : figB w h a u = true ∧ wrap64 (w * h) ≤ 9
  · obtain ⟨K, E, qs, PL, c⟩ := few_yes ha hu hy.1 hy.2
    refine .inr ⟨K, qs, ?_, c.ifew, c.fok⟩
    unfold spec_CountToTake.f
    rw [c.sfew, Option.bind_some, if_pos rfl, sqLeft_f hy.1 c, Option.bind_some]
    have hsub : ∀ s ∈ qs.map (fun q => q.f3.toNat), subE s (figMask w h a u) = true := by
      rw [c.qsE]
      exact fun s hs => (List.mem_filter.1 hs).2
    have h0 : subE 0 (figMask w h a u) = true := by rw [subE_test]; intro i hi; rw [Nat.zero_testBit] at hi; cases hi
    rw [(putN_addS _ [] [] (hitW_sub hsub K 0 h0) rfl (fun x _ => by simp)).1]
  · obtain ⟨h1, h2⟩ := few_no ha hu hy
    refine .inl ⟨?_, h2⟩
    unfold spec_CountToTake.f
    rw [h1, Option.bind_some, if_neg (by simp)]

end Go.Proofs.YtehjfaddhmdicaaDoor.P
/- What the row's listed variable, math/bits' table, gives a walk; a world in which it is laid. -/
namespace Go.Proofs.YtehjfaddhmdicaaDoor.Laid
open Go.RowKit
theorem mapM_at {α β : Type} {f : α → Option β} : ∀ {l : List α} {xs : List β}, l.mapM f = some xs → ∀ (j : Nat) (x : α), l[j]? = some x → ∃ y, xs[j]? = some y ∧ f x = some y
  | [], xs, _, j, x, hj => by simp at hj
  | a :: l, xs, h, j, x, hj => by
    rw [List.mapM_cons] at h
    obtain ⟨y, hy, h⟩ := Option.bind_eq_some_iff.1 h
    obtain ⟨ys, hys, h⟩ := Option.bind_eq_some_iff.1 h
    obtain rfl := Option.some.inj h
    cases j with
    | zero => simp at hj; subst hj; exact ⟨y, rfl, hy⟩
    | succ j => exact mapM_at hys j x (by simpa using hj)
theorem int_of_trod {H : Type} {enc : TypeId × Value → H} {P : Program} {w : World} {base : Nat} {sp : Nat → Bool} {held : Bool} {fuel : Nat} {t : TypeId} {k : IntKind} {c : Value} {y : DataW H × List MemPlace}
    (ht : P.underlying t = some (.int k)) (h : DataW.trod enc P w base sp held fuel t [c] = some y) : ∃ n, c = .int k n ∧ y = (.lit (.int k n), []) := by
  cases fuel with
  | zero => simp [DataW.trod] at h
  | succ fuel =>
    cases c <;> simp [DataW.trod, ht] at h
    rename_i k' n
    obtain ⟨⟨rfl, _⟩, rfl⟩ := h
    exact ⟨n, rfl, rfl⟩
theorem bytes_of_trod {H : Type} {enc : TypeId × Value → H} {P : Program} {w : World} {base : Nat} {sp : Nat → Bool} {held : Bool} {fuel n : Nat} {t e : TypeId} {l : List Value} {tab : List Nat} {ps : List MemPlace} (ht : P.underlying t = some (.array n e)) (he : P.underlying e = some (.int .u8)) (h1 : P.cellsOf t = n) (h2 : P.cellsOf e = 1)
    (h : DataW.trod enc P w base sp held fuel t l = some (.agg (tab.map fun k : Nat => .lit (.int .u8 (k : Int))), ps)) (j : Nat) (hj : j < n) : l[j]? = some (.int .u8 ((tab.getD j 0 : Nat) : Int)) := by
  cases fuel with
  | zero => simp [DataW.trod] at h
  | succ fuel =>
    simp only [DataW.trod, ht, h1, h2] at h
    split at h
    · rename_i hl
      obtain ⟨xs, hxs, hy⟩ := Option.map_eq_some_iff.1 h
      obtain ⟨y, hyj, hf⟩ := mapM_at hxs j j (by rw [List.getElem?_range hj])
      obtain ⟨c, hc⟩ : ∃ c, l[j]? = some c := ⟨l[j]'(by omega), List.getElem?_eq_getElem _⟩
      rw [Nat.mul_one, show (l.drop j).take 1 = [c] from by rw [List.drop_eq_getElem_cons (by omega)]; rw [List.getElem?_eq_getElem (by omega)] at hc; injection hc with hc; rw [hc]; rfl] at hf
      obtain ⟨m, rfl, rfl⟩ := int_of_trod he hf
      have h3 := (Prod.mk.inj hy).1
      injection h3 with h3
      have h4 := congrArg (fun q => q[j]?) h3
      simp only [List.getElem?_map, hyj, Option.map_some] at h4
      rw [hc, List.getD_eq_getElem?_getD]
      cases ht2 : tab[j]? with
      | none => rw [ht2] at h4; cases h4
      | some q =>
        rw [ht2] at h4
        simp at h4
        rw [h4]; rfl
    · cases h
theorem gnum : Tryd.prog.globalNamed "math/bits.deBruijn64tab" = some 0 := by kernel_rfl
theorem gtype : (Tryd.prog.globals[0]?).map (·.type) = some 172 := by kernel_rfl
theorem cellsT : Tryd.prog.cellsOf 172 = 64 := by kernel_rfl
theorem cellsE : Tryd.prog.cellsOf 5 = 1 := by kernel_rfl
theorem tabIs : (Rows.laid_math_bits_deBruijn64tab : DataW Unit) = .agg (Lib.deBruijn64tab.map fun k => .lit (.int .u8 ((k : Nat) : Int))) := by rfl
theorem plain (w : World) : laidMetH Tryd.prog [("math/bits.deBruijn64tab", Rows.laid_math_bits_deBruijn64tab)] w → laidMet Tryd.prog [("math/bits.deBruijn64tab", Rows.laid_math_bits_deBruijn64tab)] w := fun h => h
theorem tb {W : World} (h : laidMetH Tryd.prog [("math/bits.deBruijn64tab", Rows.laid_math_bits_deBruijn64tab)] W) : P.TB W := by
  obtain ⟨ps, ⟨g, t, cs, fuel, p, q, hg, ht, hvar, hd, _, _⟩, _⟩ := plain W h
  obtain rfl := Option.some.inj (gnum.symm.trans hg)
  obtain rfl := Option.some.inj (gtype.symm.trans ht)
  refine ⟨fun j hj => ?_, trivial⟩
  rw [World.var?_cell hg hvar j]
  rw [tabIs] at hd
  have := bytes_of_trod Tryd.underlying172 Tryd.underlying5 cellsT cellsE hd j hj
  rw [← Array.getElem?_toList]
  exact this
def cells64 : Array Value := (Lib.deBruijn64tab.map fun k => Value.int .u8 ((k : Nat) : Int)).toArray
noncomputable def laidWorld (os : Os) : World :=
  { World.holding Tryd.prog os ⟨#[], #[], []⟩ with heap := (World.holding Tryd.prog os ⟨#[], #[], []⟩).heap.modify 0 fun
      | .cells _ t frozen => .cells cells64 t frozen
      | o => o }
set_option maxRecDepth 100000 in
theorem laidWorld_met (os : Os) (args : Array Value) : laidMetH Tryd.prog [("math/bits.deBruijn64tab", Rows.laid_math_bits_deBruijn64tab)] ((laidWorld os).forCall (fun _ _ => 0) ⟨#[], args, []⟩).memory :=
  laidMetH_of_parts (laidMet_of_run' 8 (by kernel_rfl) (by kernel_rfl)) (by kernel_rfl)
end Go.Proofs.YtehjfaddhmdicaaDoor.Laid
namespace Go.Proofs.YtehjfaddhmdicaaDoor.fnExactCountToTake
open Go.ChangeShapes Go.WideShapes Go.ChangeAt Go.RowKit Go.Proofs.YtehjfaddhmdicaaDoorW.PrintWords Go.Joins
set_option linter.unusedVariables false
theorem own : ownKnob Tryd.prog.godebug = none := Closed.own
theorem laidOut : laidOutB Tryd.prog = true := Closed.laidOut
def IsRow (k : IntKind) (w : World) (a : Option Addr) (len cap : Nat) (zs : List Int) : Prop :=
 (a = none ∧ len = 0 ∧ cap = 0 ∧ zs = []) ∨
 ∃ x, a = some x ∧ len ≤ cap ∧ cap ≤ maxLen ∧ zs.length = cap ∧ (∀ i, i < zs.length → w.cell? (x.add i) = some (.int k (zs.getD i 0))) ∧ ∀ n ∈ zs, (Lit.int k n).wf = true
theorem opened {H : Type} {enc : TypeId × Value → H} {W : World} {m : Nat} {c : Value} {y : DataW H × List MemPlace} (hy : DataW.trod enc Tryd.prog W 0 (fun _ => true) true m 22 [c] = some y) :
  ∃ a len cap zs, c = .slice a len cap ∧ IsRow .i64 W a len cap zs := by
 rcases open_ints Tryd.underlying22 Tryd.underlying3 (by kernel_rfl) hy with ⟨hcs, _⟩ | ⟨x, l, c, zs, hcs, _, hl, hm, hz, _, hcell, hwz⟩
 ·simp at hcs
  exact ⟨none, 0, 0, [], hcs, .inl ⟨rfl, rfl, rfl, rfl⟩⟩
 ·simp at hcs
  exact ⟨some x, l, c, zs, hcs, .inr ⟨_, rfl, hl, hm, by simpa using hz, hcell, hwz⟩⟩
theorem walk (a b : Int) (A2 : Option Addr) (n2 c2 : Nat) (z2 : List Int) (A3 : Option Addr) (n3 c3 : Nat) (z3 : List Int) (w : World) (w2 : IsRow .i64 w A2 n2 c2 z2) (w3 : IsRow .i64 w A3 n3 c3 z3) (y2 : n2 * 8 ≤ 140737488351232) (y3 : n3 * 8 ≤ 140737488351232) (hT : P.TB w) :
  Calls Tryd.prog 4 #[.agg #[.int .i64 a, .int .i64 b, .slice A2 n2 c2, .slice A3 n3 c3]] w fun e w' => e = .returned (.bool true) ∧ Below w.heap.size w w' := by
 obtain ⟨l2, rfl, hr2, hm2, hw2, hc2⟩ := ReadsInt.ofRowC w2
 obtain ⟨l3, rfl, hr3, hm3, hw3, hc3⟩ := ReadsInt.ofRowC w3
 have k2 := Kd.C_of_reads (d := (0 : Int)) (h1 := fun _ => rfl) hr2
 have k3 := Kd.C_of_reads (d := (0 : Int)) (h1 := fun _ => rfl) hr3
 by_cases hbig : l2.length + l3.length ≤ 1000000
 ·have b2 : l2.length ≤ 1000000 := Nat.le_trans (Nat.le_add_right _ _) hbig
  have b3 : l3.length ≤ 1000000 := Nat.le_trans (Nat.le_add_left _ _) hbig
  rcases P.CountToTake_pure (w := a) (h := b) (a := l2) (u := l3) b2 b3 with ⟨hp1, hp2⟩ | ⟨K, qs, hp1, hp2, hq1, hq2, hq3, hq4, hq5, hq6⟩
  ·exact P.law_CountToTake_yes a b A2 c2 l2 A3 c3 l3 4000001 0 false P.TB (fun _ _ h hb => h.below hb) w k2 hc2 k3 hc3 hT hbig (Nat.lt_succ_self _)
    (fun B2 d2 B3 d3 W hu2 hd2 hu3 hd3 hG => P.spec_CountToTake.calls 4000001 a b B2 d2 l2 B3 d3 l3 0 false W hu2 hd2 hu3 hd3 hp1)
    (fun B2 d2 B3 d3 W hu2 hd2 hu3 hd3 hG => P.cntTo_no 4000001 a b B2 d2 l2 B3 d3 l3 W hu2 hd2 hu3 hd3 hp2)
  ·exact P.law_CountToTake_yes a b A2 c2 l2 A3 c3 l3 4000001 (((P.addS [] (P.hitW (qs.map fun q => q.f3.toNat) K 0)).length : Nat) : Int) true P.TB (fun _ _ h hb => h.below hb) w k2 hc2 k3 hc3 hT hbig (Nat.lt_succ_self _)
    (fun B2 d2 B3 d3 W hu2 hd2 hu3 hd3 hG => P.spec_CountToTake.calls 4000001 a b B2 d2 l2 B3 d3 l3 _ true W hu2 hd2 hu3 hd3 hp1)
    (fun B2 d2 B3 d3 W hu2 hd2 hu3 hd3 hG => P.cntTo_any 4000001 a b B2 d2 l2 B3 d3 l3 qs W hu2 hd2 hu3 hd3 hp2 hq1 hq2 hq3 K hq4 hq5 hq6 hG)
 ·exact P.law_CountToTake_no a b A2 c2 l2 A3 c3 l3 w k2 hc2 k3 hc3 (by clear hbig; omega) (by clear hbig; omega) hbig
theorem joined_mk (P : Program) (f : FuncId) (fn : Func) (s : ChangeSpec) (c : OpenClaim) (k0 : (c.wf (OpenSpec.ofChange s)) = true) (k1 : (laidOutB P) = true) (k2 : (mapsRowed P) = true) (k3 : (fn.params.all (P.readableRec ·)) = true) (k4 : (namedTie P c.named s.vars) = true) (k5 : ((c.stops == [])) = true) (k6 : ((P.stops == [])) = true) (k7 : ((c.knobs == [])) = true) (k8 : ((P.stopKnobs == [])) = true) (k9 : ((c.inPlace == P.inPlace f)) = true) (k10 : ((c.unfollowed == P.unfollowed f)) = true) (k11 : ((c.recurses == P.recurses f)) = true) (k12 : ((c.named == P.varsNamed f)) = true) (k13 : ((c.maps == (fn.params.toList ++ s.plain.varTypes P).any (P.mapsRec ·))) = true) (k14 : ((c.ifaces == (fn.params.toList ++ s.plain.varTypes P).any (P.ifacesRec ·))) = true) (k15 : ((c.mapsOut == P.mapsAmong fn.resultTypes.toList)) = true) (k16 : ((c.loops == (fn.params.toList ++ s.plain.varTypes P).any (P.loopsFrom ·))) = true) (k17 : ((c.wideKeys == (fn.params.toList ++ s.plain.varTypes P ++ fn.resultTypes.toList).any (P.wideKeysFrom ·))) = true) (k18 : (s.vars.all (P.varReadable ·)) = true) (k19 : (fn.resultTypes.all (fun t => P.readableRec t && decide (t < P.types.size))) = true) (k20 : ((c.ifacesOut == fn.resultTypes.toList.any (P.ifacesRec ·))) = true) (k21 : ((c.loopsOut == fn.resultTypes.toList.any (P.loopsFrom ·))) = true) (k22 : ((c.plainKeys == P.plainKeys)) = true) (k23 : (c.shortTexts.isNone) = true) (k24 : (P.stopsHeard) = true) (k25 : (P.mayEnter) = true) (k26 : ((c.lifted == P.liftsFinal)) = true) (k27 : ((P.make == some c.make)) = true) (hd : c.domain.isEmpty = true) (k28 : (c.kinds == []) = true) (k29 : ((c.pinned == c.pinnedBy)) = true) (k30 : ((c.veiled == (fn.params.toList ++ s.plain.varTypes P ++ fn.resultTypes.toList).any (P.veiledRec ·))) = true) (k31 : (c.veiledFits P fn.params.toList (fn.params.toList ++ s.plain.varTypes P ++ fn.resultTypes.toList)) = true) : joinedFacts P f fn s c = true := by
 unfold joinedFacts
 simp only [hd, if_true, k0, k1, k2, k3, k4, k5, k6, k7, k8, k9, k10, k11, k12, k13, k14, k15, k16, k17, k18, k19, k20, k21, k22, k23, k24, k25, k26, k27, k28, k29, k30, k31, Bool.and_self]
abbrev LAID : List (String × DataW Unit) := [("math/bits.deBruijn64tab", Rows.laid_math_bits_deBruijn64tab)]
set_option maxRecDepth 100000 in
theorem lifted (os : Os) (started : os.Started) (H : Type) (enc : TypeId × Value → H) :
  ReturnsInHanded {} Tryd.checked os 4 .any (fun w args => (Rows.fnExactCountToTakeSpec.pre enc Tryd.prog Tryd.f4 [] false w args ∧ laidMetH Tryd.prog LAID w) ∧ sizedMet enc Tryd.prog Tryd.f4 (OpenSpec.ofChange Rows.fnExactCountToTakeSpec) false w args) (Rows.fnExactCountToTakeSpec.post enc Tryd.prog Tryd.f4 false true false false) := by
 refine returnsInHanded_of_change_and (C := Tryd.checked) (X := fun w _ => laidMetH Tryd.prog LAID w) (fun _ _ _ hh h => h.of_heap hh) own started (by kernel_rfl) Tryd.func4 (ChangeSpec.witness_at (enc := enc) (C := Tryd.checked) (os := os) (X := fun w _ => laidMetH Tryd.prog LAID w) false (Laid.laidWorld os) #[.agg #[.int .i64 0, .int .i64 0, .slice none 0 0, .slice none 0 0]] 8 rfl (by kernel_rfl) (by kernel_rfl) (by kernel_rfl) (by kernel_rfl) (by kernel_rfl) (Laid.laidWorld_met os _)) ?_
 intro W base args ds gs before hval0 hW hcnd hsz0 hL _
 have hT : P.TB W := Laid.tb hL
 have hsz : (DataW.weightsEach Tryd.prog (Tryd.f4.params.toList ++ Rows.fnExactCountToTakeSpec.plain.varTypes Tryd.prog) (ds ++ gs)).all (· ≤ reachBytes) = true := hsz0
 have hval : ∀ (j : Nat) t v, Tryd.f4.params[j]? = some t → args[j]? = some v → Value.okWide Tryd.prog W .any base t v := hval0
 have hW' := hW
 obtain ⟨p, q, hA0, hV, rfl, hfz, hnd⟩ := hW
 have hA : DataW.TrodAll enc Tryd.prog W 0 (fun _ => true) true Tryd.f4.params.toList args.toList ds p := hA0
 rw [Tryd.params4] at hA hval hsz
 obtain ⟨v0, vs0, d0, ds0, p0, q0, hargs, rfl, rfl, h0, r0⟩ := trodAll_cons hA
 obtain ⟨rfl, rfl, rfl⟩ := trodAll_nil r0
 obtain rfl : args = #[v0] := by cases args; simp_all
 obtain ⟨rfl, rfl⟩ := trodVars_none hV
 have k0 := h0
 have lt0 : ∀ x ∈ p0, x.block < W.heap.size := by obtain ⟨m, hm⟩ := k0; exact DataW.trod_lt m _ _ _ hm
 obtain ⟨c0, c1, c2, c3, y0, y1, y2, y3, m, rfl, rfl, rfl, hy0, hy1, hy2, hy3⟩ := open_agg4 Tryd.underlying33 (by kernel_rfl) (by kernel_rfl) (hval 0 33 v0 rfl rfl) h0
 have hsz2 : (DataW.weightsEach Tryd.prog [3, 3, 22, 22] [y0.1, y1.1, y2.1, y3.1]).all (· ≤ reachBytes) = true := by
  rw [List.all_eq_true]
  intro n hn
  exact List.all_eq_true.1 hsz n (DataW.weights_mem_each (j := 0) (t := 33) (d := .agg [y0.1, y1.1, y2.1, y3.1]) rfl rfl n (by simp only [DataW.weights, Tryd.underlying33]; exact hn))
 obtain ⟨a, e0, -, wa⟩ := DataW.trod_int Tryd.underlying3 hy0
 obtain ⟨b, e1, -, wb⟩ := DataW.trod_int Tryd.underlying3 hy1
 obtain ⟨a2, len2, cap2, z2, rfl, w2⟩ := opened hy2
 obtain ⟨a3, len3, cap3, z3, rfl, w3⟩ := opened hy3
 have z2_ : len2 * 8 ≤ 140737488351232 := sized_ints hsz2 (j := 2) (t := 22) rfl rfl Tryd.underlying22 Tryd.underlying3 (by kernel_rfl) (by kernel_rfl) (⟨m, by simpa [Value.cells] using hy2⟩ : DataW.Trod enc Tryd.prog W 0 (fun _ => true) true 22 (.slice a2 len2 cap2) y2.1 y2.2)
 have z3_ : len3 * 8 ≤ 140737488351232 := sized_ints hsz2 (j := 3) (t := 22) rfl rfl Tryd.underlying22 Tryd.underlying3 (by kernel_rfl) (by kernel_rfl) (⟨m, by simpa [Value.cells] using hy3⟩ : DataW.Trod enc Tryd.prog W 0 (fun _ => true) true 22 (.slice a3 len3 cap3) y3.1 y3.2)
 obtain rfl : c0 = .int .i64 a := by simpa using e0
 obtain rfl : c1 = .int .i64 b := by simpa using e1
 clear hA0 hval0 hsz0 hsz hsz2
 refine (walk a b a2 len2 cap2 z2 a3 len3 cap3 z3 W w2 w3 z2_ z3_ hT).mono fun e W' ⟨he, bel⟩ => ?_
 subst he
 exact ⟨_, rfl, _, _, _, [], _, [], hW', trodAll_mk1 (shut_bool Tryd.underlying4 _), (trodAll_cons_mk (Below.trod laidOut (by kernel_rfl) (of_decide_eq_true (by kernel_rfl)) k0 bel lt0) trodAll_mk0), rfl, bel.frame _, fun h => by cases h⟩
theorem k0_ : (Rows.fnExactCountToTakeRow.wf (OpenSpec.ofChange Rows.fnExactCountToTakeSpec)) = true := by kernel_rfl
theorem k1_ : (laidOutB Tryd.prog) = true := Closed.laidOut
theorem k2_ : (mapsRowed Tryd.prog) = true := Closed.mapsRowedP
theorem k3_ : (Tryd.f4.params.all (Tryd.prog.readableRec ·)) = true := by kernel_rfl
theorem k4_ : (namedTie Tryd.prog Rows.fnExactCountToTakeRow.named Rows.fnExactCountToTakeSpec.vars) = true := by kernel_rfl
theorem k5_ : ((Rows.fnExactCountToTakeRow.stops == [])) = true := by kernel_rfl
theorem k6_ : ((Tryd.prog.stops == [])) = true := Closed.noStops
theorem k7_ : ((Rows.fnExactCountToTakeRow.knobs == [])) = true := by kernel_rfl
theorem k8_ : ((Tryd.prog.stopKnobs == [])) = true := Closed.noKnobs
theorem k9_ : ((Rows.fnExactCountToTakeRow.inPlace == Tryd.prog.inPlace 4)) = true := by kernel_rfl
theorem k10_ : ((Rows.fnExactCountToTakeRow.unfollowed == Tryd.prog.unfollowed 4)) = true := by kernel_rfl
theorem k11_ : ((Rows.fnExactCountToTakeRow.recurses == Tryd.prog.recurses 4)) = true := by kernel_rfl
theorem k12_ : ((Rows.fnExactCountToTakeRow.named == Tryd.prog.varsNamed 4)) = true := by kernel_rfl
theorem k13_ : ((Rows.fnExactCountToTakeRow.maps == (Tryd.f4.params.toList ++ Rows.fnExactCountToTakeSpec.plain.varTypes Tryd.prog).any (Tryd.prog.mapsRec ·))) = true := by kernel_rfl
theorem k14_ : ((Rows.fnExactCountToTakeRow.ifaces == (Tryd.f4.params.toList ++ Rows.fnExactCountToTakeSpec.plain.varTypes Tryd.prog).any (Tryd.prog.ifacesRec ·))) = true := by kernel_rfl
theorem k15_ : ((Rows.fnExactCountToTakeRow.mapsOut == Tryd.prog.mapsAmong Tryd.f4.resultTypes.toList)) = true := by kernel_rfl
theorem k16_ : ((Rows.fnExactCountToTakeRow.loops == (Tryd.f4.params.toList ++ Rows.fnExactCountToTakeSpec.plain.varTypes Tryd.prog).any (Tryd.prog.loopsFrom ·))) = true := by kernel_rfl
theorem k17_ : ((Rows.fnExactCountToTakeRow.wideKeys == (Tryd.f4.params.toList ++ Rows.fnExactCountToTakeSpec.plain.varTypes Tryd.prog ++ Tryd.f4.resultTypes.toList).any (Tryd.prog.wideKeysFrom ·))) = true := by kernel_rfl
theorem k18_ : (Rows.fnExactCountToTakeSpec.vars.all (Tryd.prog.varReadable ·)) = true := by kernel_rfl
theorem k19_ : (Tryd.f4.resultTypes.all (fun t => Tryd.prog.readableRec t && decide (t < Tryd.prog.types.size))) = true := by kernel_rfl
theorem k20_ : ((Rows.fnExactCountToTakeRow.ifacesOut == Tryd.f4.resultTypes.toList.any (Tryd.prog.ifacesRec ·))) = true := by kernel_rfl
theorem k21_ : ((Rows.fnExactCountToTakeRow.loopsOut == Tryd.f4.resultTypes.toList.any (Tryd.prog.loopsFrom ·))) = true := by kernel_rfl
theorem k22_ : ((Rows.fnExactCountToTakeRow.plainKeys == Tryd.prog.plainKeys)) = true := by kernel_rfl
theorem k23_ : (Rows.fnExactCountToTakeRow.shortTexts.isNone) = true := by kernel_rfl
theorem k24_ : (Tryd.prog.stopsHeard) = true := Closed.stopsHeard
theorem k25_ : (Tryd.prog.mayEnter) = true := Closed.mayEnter
theorem k26_ : ((Rows.fnExactCountToTakeRow.lifted == Tryd.prog.liftsFinal)) = true := by rw [Closed.liftsFinal]; kernel_rfl
theorem k27_ : ((Tryd.prog.make == some Rows.fnExactCountToTakeRow.make)) = true := by rw [Closed.make]; kernel_rfl
theorem k28_ : ((Rows.fnExactCountToTakeRow.kinds == [])) = true := by kernel_rfl
theorem k29_ : ((Rows.fnExactCountToTakeRow.pinned == Rows.fnExactCountToTakeRow.pinnedBy)) = true := by kernel_rfl
theorem k30_ : ((Rows.fnExactCountToTakeRow.veiled == (Tryd.f4.params.toList ++ Rows.fnExactCountToTakeSpec.plain.varTypes Tryd.prog ++ Tryd.f4.resultTypes.toList).any (Tryd.prog.veiledRec ·))) = true := by kernel_rfl
theorem k31_ : (Rows.fnExactCountToTakeRow.veiledFits Tryd.prog Tryd.f4.params.toList (Tryd.f4.params.toList ++ Rows.fnExactCountToTakeSpec.plain.varTypes Tryd.prog ++ Tryd.f4.resultTypes.toList)) = true := by kernel_rfl
theorem k99_ : (Rows.fnExactCountToTakeRow.domain.isEmpty) = true := by kernel_rfl
theorem closed : joinedFacts Tryd.prog 4 Tryd.f4 Rows.fnExactCountToTakeSpec Rows.fnExactCountToTakeRow = true :=
 joined_mk _ _ _ _ _ k0_ k1_ k2_ k3_ k4_ k5_ k6_ k7_ k8_ k9_ k10_ k11_ k12_ k13_ k14_ k15_ k16_ k17_ k18_ k19_ k20_ k21_ k22_ k23_ k24_ k25_ k26_ k27_ k99_ k28_ k29_ k30_ k31_
theorem over : Rows.fnExactCountToTakeRow.holds Tryd.pinned (OpenSpec.ofChange Rows.fnExactCountToTakeSpec) :=
 OpenClaim.holds_of_wide 4 Tryd.f4 rfl rfl rfl rfl rfl rfl rfl ⟨rfl, rfl, rfl, rfl, rfl⟩ rfl rfl rfl rfl rfl (by kernel_rfl) Tryd.func4 closed
  (of_decide_eq_true (by kernel_rfl)) (by unfold Func.isWrapper; first | (rw [if_pos (by decide +kernel)]; kernel_rfl) | (rw [if_neg (by decide +kernel)]; exact ⟨rfl, rfl⟩))
  (fun os started H enc _ => lifted os started H enc)
theorem card : Rows.FnExactCountToTakeCardSaid :=
 Claim7.holds_tied_plain_at .later [] [.data] true (true, "51a81812d70b6a8fa3f4660c1a3f95587944b71932d92a023d035a6397cb1daa") false
  over (fun _ h => by cases h) (by kernel_rfl) (fun _ h => by cases h) fnExactCountToTake_row_tie rfl ⟨rfl, rfl⟩ (by kernel_rfl) rfl
  (fun f fn hf hfn => by
   obtain rfl : f = 4 := Option.some.inj ((show Tryd.prog.funcNamed "loop.example/g01233/laws.FnExactCountToTake" = some 4 by kernel_rfl).symm.trans hf) |>.symm
   obtain rfl : fn = Tryd.f4 := (Option.some.inj (Tryd.func4.symm.trans hfn)).symm
   exact ⟨by kernel_rfl, fun j t ht => by
    rw [Tryd.params4] at ht
    have h3 : t = 33 := by
     rcases j with _ | j
     ·simpa using ht.symm
     ·simp at ht
    subst h3
    exact (show Tryd.prog.wantsStandIn 33 = false by kernel_rfl)⟩)
  (by kernel_rfl)
end Go.Proofs.YtehjfaddhmdicaaDoor.fnExactCountToTake
namespace Go.Proofs.YtehjfaddhmdicaaDoor
theorem fnExactCountToTake_holds : Rows.FnExactCountToTakeCardSaid := fnExactCountToTake.card
end Go.Proofs.YtehjfaddhmdicaaDoor
