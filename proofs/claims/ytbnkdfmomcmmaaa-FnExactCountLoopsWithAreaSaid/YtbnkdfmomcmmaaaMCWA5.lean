/- For every input the law FnExactCountLoopsWithArea answers true: the program's CountLoopsWithArea tells what the reference's CountLoopsWithArea tells; no condition. (part 5 of the proof; the words of the kit's print tool and the texts of this seat, merged by a program) -/
import Derived.Below
import Derived.ChangeOld
import Derived.Deep.RegionLaw
import Derived.Laws.IdiomStrings
import Derived.OpenShut
import Derived.ProofKit
import Derived.ShutString
import Derived.SizedLaws
import Derived.Test.YtbnkdfmomcmmaaaRows
import Derived.WalkKit
import Derived.Test.YtbnkdfmomcmmaaaMCWA4
namespace Go.Proofs.Ytbnkdfmomcmmaaa.P
open Go.RowKit Go.Proofs.YtbnkdfmomcmmaaaW.PrintWords Go.Proofs.YtbnkdfmomcmmaaaW.PrintLast Go.Proofs.YtbnkdfmomcmmaaaW.PrintMore
attribute [local go_sem] max2_int min2_int max_two min_two max_three min_three max_four min_four   -- for this text's walks alone
set_option linter.unusedVariables false
set_option linter.unusedSimpArgs false

mutual
def spec_CountLoopsWithArea.j0 : Nat → Int → Int → Bool → Option (Int × Bool)
  | 0, _, _, _ => none
  | k + 1, x0, x1, x15 => if x15 = true then (some (0, false)) else ((spec_loEach.f k x0).bind fun t233 => (spec_CountLoopsWithArea.l0 k x1 0 t233 (t233.length : Int) 0))
def spec_CountLoopsWithArea.l0 : Nat → Int → Int → List ByteArray → Int → Int → Option (Int × Bool)
  | 0, _, _, _, _, _ => none
  | k + 1, x1, x6, x17, x18, x19 => if x19 < x18 then (if 0 ≤ x19 then (if x19 < (x17.length : Int) then ((spec_loCells.f k (rdOf ByteArray.empty x17 x19)).bind fun t237 => (if (t237.length : Int) = x1 then (spec_CountLoopsWithArea.l0 k x1 (wrap64 (x6 + 1)) x17 x18 (wrap64 (x19 + 1))) else (spec_CountLoopsWithArea.l0 k x1 x6 x17 x18 (wrap64 (x19 + 1))))) else (none)) else (none)) else (some (x6, true))
end
def spec_CountLoopsWithArea.f (k : Nat) (a0 : Int) (a1 : Int) : Option (Int × Bool) := (spec_loNumber.f a0).bind fun t232 => (if t232 = true then (spec_CountLoopsWithArea.j0 k a0 a1 (decide (a1 < 0))) else (spec_CountLoopsWithArea.j0 k a0 a1 true))
theorem spec_CountLoopsWithArea.mono_l : ∀ k, (∀ y0 y1 y2, LeO (spec_CountLoopsWithArea.j0 k y0 y1 y2) (spec_CountLoopsWithArea.j0 (k + 1) y0 y1 y2)) ∧ (∀ y0 y1 y2 y3 y4, LeO (spec_CountLoopsWithArea.l0 k y0 y1 y2 y3 y4) (spec_CountLoopsWithArea.l0 (k + 1) y0 y1 y2 y3 y4))
  | 0 => ⟨fun _ _ _ r h => by simp [spec_CountLoopsWithArea.j0] at h, fun _ _ _ _ _ r h => by simp [spec_CountLoopsWithArea.l0] at h⟩
  | k + 1 => by
    obtain ⟨ih0, ih1⟩ := spec_CountLoopsWithArea.mono_l k
    refine ⟨?_, ?_⟩
    · intro y0 y1 y2
      unfold spec_CountLoopsWithArea.j0
      repeat' first
      | (with_reducible exact ih0 _ _ _)
      | (with_reducible exact ih1 _ _ _ _ _)
      | (with_reducible exact spec_loCells.mono _ _)
      | (with_reducible exact spec_loEach.mono _ _)
      | (with_reducible exact LeO.refl _)
      | (with_reducible exact LeO.none _)
      | (with_reducible refine LeO.ite ?_ ?_)
      | (with_reducible refine LeO.bind ?_ (fun _ => ?_))
      | exact ih0 _ _ _
      | exact ih1 _ _ _ _ _
      | exact spec_loCells.mono _ _
      | exact spec_loEach.mono _ _
      | exact LeO.none _
      | refine LeO.ite ?_ ?_
      | refine LeO.bind ?_ (fun _ => ?_)
    · intro y0 y1 y2 y3 y4
      unfold spec_CountLoopsWithArea.l0
      repeat' first
      | (with_reducible exact ih0 _ _ _)
      | (with_reducible exact ih1 _ _ _ _ _)
      | (with_reducible exact spec_loCells.mono _ _)
      | (with_reducible exact spec_loEach.mono _ _)
      | (with_reducible exact LeO.refl _)
      | (with_reducible exact LeO.none _)
      | (with_reducible refine LeO.ite ?_ ?_)
      | (with_reducible refine LeO.bind ?_ (fun _ => ?_))
      | exact ih0 _ _ _
      | exact ih1 _ _ _ _ _
      | exact spec_loCells.mono _ _
      | exact spec_loEach.mono _ _
      | exact LeO.none _
      | refine LeO.ite ?_ ?_
      | refine LeO.bind ?_ (fun _ => ?_)
theorem spec_CountLoopsWithArea.mono : ∀ a0 a1 k, LeO (spec_CountLoopsWithArea.f k a0 a1) (spec_CountLoopsWithArea.f (k + 1) a0 a1) := by
  intro a0 a1 k
  obtain ⟨ih0, ih1⟩ := spec_CountLoopsWithArea.mono_l k
  unfold spec_CountLoopsWithArea.f
  repeat' first
      | (with_reducible exact ih0 _ _ _)
      | (with_reducible exact ih1 _ _ _ _ _)
      | (with_reducible exact spec_loCells.mono _ _)
      | (with_reducible exact spec_loEach.mono _ _)
      | (with_reducible exact LeO.refl _)
      | (with_reducible exact LeO.none _)
      | (with_reducible refine LeO.ite ?_ ?_)
      | (with_reducible refine LeO.bind ?_ (fun _ => ?_))
      | exact ih0 _ _ _
      | exact ih1 _ _ _ _ _
      | exact spec_loCells.mono _ _
      | exact spec_loEach.mono _ _
      | exact LeO.none _
      | refine LeO.ite ?_ ?_
      | refine LeO.bind ?_ (fun _ => ?_)
set_option maxHeartbeats 8000000 in
set_option maxRecDepth 100000 in
theorem spec_CountLoopsWithArea.calls (k : Nat) (a0 : Int) (a1 : Int) (r1 : Int) (r2 : Bool) (w : World) (h : spec_CountLoopsWithArea.f k a0 a1 = some (r1, r2)) :
    Calls Try.prog 13 #[.int .i64 a0, .int .i64 a1] w fun e w' => e = .returned (.tuple #[.int .i64 r1, .bool r2]) ∧ Below w.heap.size w w' := by
  have HB := Aside0.mk (Below.refl w.heap.size w)
  have H : ((spec_loNumber.f a0).bind fun t232 => (if t232 = true then (spec_CountLoopsWithArea.j0 k a0 a1 (decide (a1 < 0))) else (spec_CountLoopsWithArea.j0 k a0 a1 true))) = some (r1, r2) := h
  clear h
  have HC3 := Aside0.mk H
  clear H
  go_enter Try.func13, Try.ntmps13
  go_upto_region 1 with (fail)
  go_cut [15] (fun v15 wc => ∃ (kq : Nat) (x15_2 : Bool), v15 = .bool x15_2 ∧ Aside0 (spec_CountLoopsWithArea.j0 kq a0 a1 x15_2 = some (r1, r2)) ∧ Aside0 (kq ≤ k) ∧ Aside0 (Below w.heap.size w wc))
  case first =>
    have H := HC3.out
    clear HC3
    replace H := Option.bind_eq_some_iff.mp H
    obtain ⟨t232, A40, H⟩ := H
    replace H : (if t232 = true then (spec_CountLoopsWithArea.j0 k a0 a1 (decide (a1 < 0))) else (spec_CountLoopsWithArea.j0 k a0 a1 true)) = some (r1, r2) := H
    have A4 := Aside0.mk A40
    clear A40
    by_cases c5 : t232 = true
    · subst c5
      have H1 : (spec_CountLoopsWithArea.j0 k a0 a1 (decide (a1 < 0))) = some (r1, r2) := by rw [if_pos rfl] at H; exact H
      clear H
      have H := H1
      clear H1
      have H' := Aside0.mk H
      clear H
      go_wp2_with (first | ((with_reducible refine gate_callee (f := 15) rfl ?_); refine goesL_ (some 10) rfl rfl Try.func15 (by kernel_rfl) rfl #[.int .i64 a0] rfl (by (try simp only [List.map_toArray, List.map_cons, List.map_nil]); first | done | rfl | (simp only [List.length_drop, List.length_take]; rfl)) ?_; (with_reducible refine (spec_loNumber.calls a0 true _ A4.out).mono ?_); rintro e w' ⟨rfl, ⟨nd, rfl⟩⟩; refine ⟨_, rfl, ?_⟩))
      go_meet
      case rel => exact ⟨_, (decide (a1 < 0)), (by first | rfl | (simp; done) | (simp [*]; done)), H', ⟨by first | omega | exact Nat.le_refl _⟩, ⟨by repeat (first | (with_reducible first | exact HB.out | apply below_alloc | apply pw_below_drewN | apply below_drew1) | exact HB.out)⟩⟩
    · replace c5 := Bool.eq_false_iff.mpr c5
      subst c5
      have H1 : (spec_CountLoopsWithArea.j0 k a0 a1 true) = some (r1, r2) := by rw [if_neg (show ¬ (false = true) by decide)] at H; exact H
      clear H
      have H := H1
      clear H1
      have H' := Aside0.mk H
      clear H
      go_wp2_with (first | ((with_reducible refine gate_callee (f := 15) rfl ?_); refine goesL_ (some 10) rfl rfl Try.func15 (by kernel_rfl) rfl #[.int .i64 a0] rfl (by (try simp only [List.map_toArray, List.map_cons, List.map_nil]); first | done | rfl | (simp only [List.length_drop, List.length_take]; rfl)) ?_; (with_reducible refine (spec_loNumber.calls a0 false _ A4.out).mono ?_); rintro e w' ⟨rfl, ⟨nd, rfl⟩⟩; refine ⟨_, rfl, ?_⟩))
      go_meet
      case rel => exact ⟨_, (true), (by first | rfl | (simp; done) | (simp [*]; done)), H', ⟨by first | omega | exact Nat.le_refl _⟩, ⟨by repeat (first | (with_reducible first | exact HB.out | apply below_alloc | apply pw_below_drewN | apply below_drew1) | exact HB.out)⟩⟩
  case rest =>
    clear HC3
    try clear c1
    try clear p2
    try clear c5
    obtain ⟨kq, x15_2, rfl, HA, HJ2, HB⟩ := hcut
    cases kq with
    | zero => exact absurd HA.out (by simp [spec_CountLoopsWithArea.j0])
    | succ kj2 =>
      have H := HA.out
      clear HA
      simp only [spec_CountLoopsWithArea.j0] at H
      by_cases c6 : x15_2 = true
      · subst c6
        have H1 : (some (0, false)) = some (r1, r2) := by rw [if_pos rfl] at H; exact H
        clear H
        have H := H1
        clear H1
        simp only [Option.some.injEq, Prod.mk.injEq] at H
        obtain ⟨rfl, rfl⟩ := H
        go_wp2
        go_ret2
        exact ⟨by first | rfl | (simp [errW_none, errW_some] <;> rfl) | (simp [*, errW_none, errW_some] <;> rfl), by repeat (first | (with_reducible first | exact HB.out | apply below_alloc | apply pw_below_drewN | apply below_drew1) | exact HB.out)⟩
      · replace c6 := Bool.eq_false_iff.mpr c6
        subst c6
        have H1 : ((spec_loEach.f kj2 a0).bind fun t233 => (spec_CountLoopsWithArea.l0 kj2 a1 0 t233 (t233.length : Int) 0)) = some (r1, r2) := by rw [if_neg (show ¬ (false = true) by decide)] at H; exact H
        clear H
        have H := H1
        clear H1
        replace H := Option.bind_eq_some_iff.mp H
        obtain ⟨t233, A70, H⟩ := H
        replace H : (spec_CountLoopsWithArea.l0 kj2 a1 0 t233 (t233.length : Int) 0) = some (r1, r2) := H
        have A7 := Aside0.mk A70
        clear A70
        have H' := Aside0.mk H
        clear H
        go_wp2_with (first | ((with_reducible refine gate_callee (f := 16) rfl ?_); refine goesL_ (some 17) rfl rfl Try.func16 (by kernel_rfl) rfl #[.int .i64 a0] rfl (by (try simp only [List.map_toArray, List.map_cons, List.map_nil]); first | done | rfl | (simp only [List.length_drop, List.length_take]; rfl)) ?_; (with_reducible refine (spec_loEach.calls kj2 a0 t233 _ A7.out).mono ?_); rintro e w8 ⟨v234, rfl, ho0, hb⟩; refine ⟨_, rfl, ?_⟩; have n0_ := Aside0.mk (Kd.R_lower ho0 (below_size (by repeat (first | (with_reducible first | exact HB.out | apply below_alloc | apply pw_below_drewN | apply below_drew1) | exact HB.out)))); have n1_ := Aside0.mk (below_step (by repeat (first | (with_reducible first | exact HB.out | apply below_alloc | apply pw_below_drewN | apply below_drew1) | exact HB.out)) hb); clear HB; have HO235 := n0_; have HB := n1_; clear n0_ n1_; (try clear hb); (try clear hb2); (try clear hk); (try clear hi); (try clear ho0); obtain ⟨Ao9, co9, eo9⟩ := Kd.R_slice HO235.out; subst eo9))
        go_loopg [6, 19] kj2 (fun kq v6 v19 w' => ∃ (x6_2 : Int) (x19_2 : Int), v6 = .int .i64 x6_2 ∧ v19 = .int .i64 x19_2 ∧ Aside0 (spec_CountLoopsWithArea.l0 kq a1 x6_2 t233 (t233.length : Int) x19_2 = some (r1, r2)) ∧ Aside0 (kq ≤ kj2) ∧ Aside0 (Kd.R Kd.string 9 w' w.heap.size (fun _ => True) (.slice Ao9 t233.length co9) t233) ∧ Aside0 (Below w.heap.size w w'))
        case atStart => exact ⟨(0), (0), (by first | rfl | (simp; done) | (simp [*]; done)), (by first | rfl | (simp; done) | (simp [*]; done)), H', ⟨Nat.le_refl _⟩, ⟨by (with_reducible repeat (first | apply Kd.R_alloc | apply Kd.R_drewN | apply Kd.R_drew)); exact HO235.out⟩, ⟨by repeat (first | (with_reducible first | exact HB.out | apply below_alloc | apply pw_below_drewN | apply below_drew1) | exact HB.out)⟩⟩
        case round =>
          clear H'
          try clear c1
          try clear p2
          try clear c5
          try clear c6
          try clear p2
          obtain ⟨x6_2, x19_2, rfl, rfl, HA, HK2, HO_17, HB⟩ := hrel
          cases gk with
          | zero => exact absurd HA.out (by simp [spec_CountLoopsWithArea.l0])
          | succ k2 =>
            have H := HA.out
            clear HA
            simp only [spec_CountLoopsWithArea.l0] at H
            by_cases c10 : x19_2 < (t233.length : Int)
            · rw [if_pos c10] at H
              have c10b0 : decide (x19_2 < (t233.length : Int)) = true := decide_eq_true c10
              clear c10
              by_cases c11 : 0 ≤ x19_2
              · rw [if_pos c11] at H
                have c11b0 : decide (0 ≤ x19_2) = true := decide_eq_true c11
                clear c11
                by_cases c12 : x19_2 < (t233.length : Int)
                · rw [if_pos c12] at H
                  have c12b0 : decide (x19_2 < (t233.length : Int)) = true := decide_eq_true c12
                  clear c12
                  replace H := Option.bind_eq_some_iff.mp H
                  obtain ⟨t237, A130, H⟩ := H
                  replace H : (if (t237.length : Int) = a1 then (spec_CountLoopsWithArea.l0 k2 a1 (wrap64 (x6_2 + 1)) t233 (t233.length : Int) (wrap64 (x19_2 + 1))) else (spec_CountLoopsWithArea.l0 k2 a1 x6_2 t233 (t233.length : Int) (wrap64 (x19_2 + 1)))) = some (r1, r2) := H
                  have A13 := Aside0.mk A130
                  clear A130
                  by_cases c14 : (t237.length : Int) = a1
                  · rw [if_pos c14] at H
                    have c14b0 : ((t237.length : Int) == a1) = true := beq_iff_eq.mpr c14
                    have c14b1 : ((t237.length : Int) != a1) = false := bne_eq_false_iff_eq.mpr c14
                    clear c14
                    have H' := Aside0.mk H
                    clear H
                    have p236 : 0 ≤ (x19_2 : Int) := of_decide_eq_true (by first | (with_reducible assumption) | assumption)
                    have q236 : x19_2 < (t233.length : Int) := of_decide_eq_true (by first | (with_reducible assumption) | assumption)
                    obtain ⟨ad236, e236, hx236_0⟩ := Kd.at_string (Kd.R_reads' HO_17.out).2.2 x19_2 p236 q236
                    cases e236
                    replace p236 := eq_true p236
                    replace q236 := eq_true q236
                    go_wp2_with (first | ((with_reducible refine gate_callee (f := 23) rfl ?_); refine goesL_ (some 24) rfl rfl Try.func23 (by kernel_rfl) rfl #[.string (rdOf ByteArray.empty t233 x19_2)] rfl (by (try simp only [List.map_toArray, List.map_cons, List.map_nil]); first | done | rfl | (simp only [List.length_drop, List.length_take]; rfl)) ?_; (with_reducible refine (spec_loCells.calls k2 (rdOf ByteArray.empty t233 x19_2) t237 _ A13.out).mono ?_); rintro e w15 ⟨v238, rfl, ho0, hb⟩; refine ⟨_, rfl, ?_⟩; have n0_ := Aside0.mk (Kd.R_below (by (with_reducible repeat (first | apply Kd.R_alloc | apply Kd.R_drewN | apply Kd.R_drew)); exact HO_17.out) hb); have n1_ := Aside0.mk (Kd.R_lower ho0 (below_size (by repeat (first | (with_reducible first | exact HB.out | apply below_alloc | apply pw_below_drewN | apply below_drew1) | exact HB.out)))); have n2_ := Aside0.mk (below_step (by repeat (first | (with_reducible first | exact HB.out | apply below_alloc | apply pw_below_drewN | apply below_drew1) | exact HB.out)) hb); clear HO_17; clear HB; have HO_17 := n0_; have HO239 := n1_; have HB := n2_; clear n0_ n1_ n2_; (try clear hb); (try clear hb2); (try clear hk); (try clear hi); (try clear ho0); obtain ⟨Ao16, co16, eo16⟩ := Kd.R_slice HO239.out; subst eo16))
                    go_roundg k2
                    case measure => have := HJ2.out; have := HK2.out; omega
                    case rel => exact ⟨(wrap64 (x6_2 + 1)), (wrap64 (x19_2 + 1)), (by first | rfl | (simp; done) | (simp [*]; done)), (by first | rfl | (simp; done) | (simp [*]; done)), H', ⟨by have := HJ2.out; have := HK2.out; omega⟩, ⟨by (with_reducible repeat (first | apply Kd.R_alloc | apply Kd.R_drewN | apply Kd.R_drew)); exact HO_17.out⟩, ⟨by repeat (first | (with_reducible first | exact HB.out | apply below_alloc | apply pw_below_drewN | apply below_drew1) | exact HB.out)⟩⟩
                  · rw [if_neg c14] at H
                    have c14b0 : ((t237.length : Int) == a1) = false := beq_eq_false_iff_ne.mpr c14
                    have c14b1 : ((t237.length : Int) != a1) = true := bne_iff_ne.mpr c14
                    have H' := Aside0.mk H
                    clear H
                    have p236 : 0 ≤ (x19_2 : Int) := of_decide_eq_true (by first | (with_reducible assumption) | assumption)
                    have q236 : x19_2 < (t233.length : Int) := of_decide_eq_true (by first | (with_reducible assumption) | assumption)
                    obtain ⟨ad236, e236, hx236_0⟩ := Kd.at_string (Kd.R_reads' HO_17.out).2.2 x19_2 p236 q236
                    cases e236
                    replace p236 := eq_true p236
                    replace q236 := eq_true q236
                    go_wp2_with (first | ((with_reducible refine gate_callee (f := 23) rfl ?_); refine goesL_ (some 24) rfl rfl Try.func23 (by kernel_rfl) rfl #[.string (rdOf ByteArray.empty t233 x19_2)] rfl (by (try simp only [List.map_toArray, List.map_cons, List.map_nil]); first | done | rfl | (simp only [List.length_drop, List.length_take]; rfl)) ?_; (with_reducible refine (spec_loCells.calls k2 (rdOf ByteArray.empty t233 x19_2) t237 _ A13.out).mono ?_); rintro e w17 ⟨v238, rfl, ho0, hb⟩; refine ⟨_, rfl, ?_⟩; have n0_ := Aside0.mk (Kd.R_below (by (with_reducible repeat (first | apply Kd.R_alloc | apply Kd.R_drewN | apply Kd.R_drew)); exact HO_17.out) hb); have n1_ := Aside0.mk (Kd.R_lower ho0 (below_size (by repeat (first | (with_reducible first | exact HB.out | apply below_alloc | apply pw_below_drewN | apply below_drew1) | exact HB.out)))); have n2_ := Aside0.mk (below_step (by repeat (first | (with_reducible first | exact HB.out | apply below_alloc | apply pw_below_drewN | apply below_drew1) | exact HB.out)) hb); clear HO_17; clear HB; have HO_17 := n0_; have HO239 := n1_; have HB := n2_; clear n0_ n1_ n2_; (try clear hb); (try clear hb2); (try clear hk); (try clear hi); (try clear ho0); obtain ⟨Ao18, co18, eo18⟩ := Kd.R_slice HO239.out; subst eo18))
                    go_roundg k2
                    case measure => have := HJ2.out; have := HK2.out; omega
                    case rel => exact ⟨(x6_2), (wrap64 (x19_2 + 1)), (by first | rfl | (simp; done) | (simp [*]; done)), (by first | rfl | (simp; done) | (simp [*]; done)), H', ⟨by have := HJ2.out; have := HK2.out; omega⟩, ⟨by (with_reducible repeat (first | apply Kd.R_alloc | apply Kd.R_drewN | apply Kd.R_drew)); exact HO_17.out⟩, ⟨by repeat (first | (with_reducible first | exact HB.out | apply below_alloc | apply pw_below_drewN | apply below_drew1) | exact HB.out)⟩⟩
                · rw [if_neg c12] at H
                  exact absurd H (by simp)
              · rw [if_neg c11] at H
                exact absurd H (by simp)
            · rw [if_neg c10] at H
              have c10b0 : decide (x19_2 < (t233.length : Int)) = false := decide_eq_false c10
              clear c10
              simp only [Option.some.injEq, Prod.mk.injEq] at H
              obtain ⟨rfl, rfl⟩ := H
              go_wp2
              go_ret2
              exact ⟨by first | rfl | (simp [errW_none, errW_some] <;> rfl) | (simp [*, errW_none, errW_some] <;> rfl), by repeat (first | (with_reducible first | exact HB.out | apply below_alloc | apply pw_below_drewN | apply below_drew1) | exact HB.out)⟩

end Go.Proofs.Ytbnkdfmomcmmaaa.P


namespace Go.Proofs.Ytbnkdfmomcmmaaa.P
open Go.RowKit Go.Proofs.YtbnkdfmomcmmaaaW.PrintWords Go.Proofs.YtbnkdfmomcmmaaaW.PrintLast Go.Proofs.YtbnkdfmomcmmaaaW.PrintMore
attribute [local go_sem] max2_int min2_int max_two min_two max_three min_three max_four min_four   -- for this text's walks alone
set_option linter.unusedVariables false
set_option linter.unusedSimpArgs false

def impl_within.f (a0 : Int) (a1 : Int) (a2 : Int) : Option (Bool) := if a1 ≤ a0 then (some (decide (a0 ≤ a2))) else (some false)
set_option maxHeartbeats 8000000 in
set_option maxRecDepth 100000 in
theorem impl_within.calls (a0 : Int) (a1 : Int) (a2 : Int) (r : Bool) (w : World) (h : impl_within.f a0 a1 a2 = some r) :
    Calls Try.prog 30 #[.int .i64 a0, .int .i64 a1, .int .i64 a2] w fun e w' => e = .returned (.bool r) ∧ Drawn0 w w' := by
  have H : (if a1 ≤ a0 then (some (decide (a0 ≤ a2))) else (some false)) = some r := h
  clear h
  by_cases c4 : a1 ≤ a0
  · rw [if_pos c4] at H
    have c4b0 : decide (a1 ≤ a0) = true := decide_eq_true c4
    clear c4
    obtain rfl := Option.some.inj H
    go_enter Try.func30, Try.ntmps30
    go_wp2
    go_ret
    exact ⟨by first | rfl | (simp; done) | (simp [*]; done), by repeat (first | exact Drawn0.refl _ | apply Drawn0.step)⟩
  · rw [if_neg c4] at H
    have c4b0 : decide (a1 ≤ a0) = false := decide_eq_false c4
    clear c4
    obtain rfl := Option.some.inj H
    go_enter Try.func30, Try.ntmps30
    go_wp2
    go_ret
    exact ⟨by first | rfl | (simp; done) | (simp [*]; done), by repeat (first | exact Drawn0.refl _ | apply Drawn0.step)⟩

end Go.Proofs.Ytbnkdfmomcmmaaa.P


namespace Go.Proofs.Ytbnkdfmomcmmaaa.P
open Go.RowKit Go.Proofs.YtbnkdfmomcmmaaaW.PrintWords Go.Proofs.YtbnkdfmomcmmaaaW.PrintLast Go.Proofs.YtbnkdfmomcmmaaaW.PrintMore
attribute [local go_sem] max2_int min2_int max_two min_two max_three min_three max_four min_four   -- for this text's walks alone
set_option linter.unusedVariables false
set_option linter.unusedSimpArgs false

def impl_isLength.f (a0 : Int) : Option (Bool) := (impl_within.f a0 4 14).bind fun t152 => (if t152 = true then (some ((Int.tmod a0 2) == 0)) else (some false))
set_option maxHeartbeats 8000000 in
set_option maxRecDepth 100000 in
theorem impl_isLength.calls (a0 : Int) (r : Bool) (w : World) (h : impl_isLength.f a0 = some r) :
    Calls Try.prog 19 #[.int .i64 a0] w fun e w' => e = .returned (.bool r) ∧ Drawn0 w w' := by
  have H : ((impl_within.f a0 4 14).bind fun t152 => (if t152 = true then (some ((Int.tmod a0 2) == 0)) else (some false))) = some r := h
  clear h
  replace H := Option.bind_eq_some_iff.mp H
  obtain ⟨t152, A20, H⟩ := H
  replace H : (if t152 = true then (some ((Int.tmod a0 2) == 0)) else (some false)) = some r := H
  have A2 := Aside0.mk A20
  clear A20
  by_cases c3 : t152 = true
  · subst c3
    have H1 : (some ((Int.tmod a0 2) == 0)) = some r := by rw [if_pos rfl] at H; exact H
    clear H
    have H := H1
    clear H1
    obtain rfl := Option.some.inj H
    go_enter Try.func19, Try.ntmps19
    go_wp2_with (first | ((with_reducible refine gate_callee (f := 30) rfl ?_); refine goesL_ (some 4) rfl rfl Try.func30 (by kernel_rfl) rfl #[.int .i64 a0, .int .i64 4, .int .i64 14] rfl (by (try simp only [List.map_toArray, List.map_cons, List.map_nil]); first | done | rfl | (simp only [List.length_drop, List.length_take]; rfl)) ?_; (with_reducible refine (impl_within.calls a0 4 14 true _ A2.out).mono ?_); rintro e w' ⟨rfl, ⟨nd, rfl⟩⟩; refine ⟨_, rfl, ?_⟩))
    go_ret
    exact ⟨by first | rfl | (simp; done) | (simp [*]; done), by repeat (first | exact Drawn0.refl _ | apply Drawn0.step)⟩
  · replace c3 := Bool.eq_false_iff.mpr c3
    subst c3
    have H1 : (some false) = some r := by rw [if_neg (show ¬ (false = true) by decide)] at H; exact H
    clear H
    have H := H1
    clear H1
    obtain rfl := Option.some.inj H
    go_enter Try.func19, Try.ntmps19
    go_wp2_with (first | ((with_reducible refine gate_callee (f := 30) rfl ?_); refine goesL_ (some 4) rfl rfl Try.func30 (by kernel_rfl) rfl #[.int .i64 a0, .int .i64 4, .int .i64 14] rfl (by (try simp only [List.map_toArray, List.map_cons, List.map_nil]); first | done | rfl | (simp only [List.length_drop, List.length_take]; rfl)) ?_; (with_reducible refine (impl_within.calls a0 4 14 false _ A2.out).mono ?_); rintro e w' ⟨rfl, ⟨nd, rfl⟩⟩; refine ⟨_, rfl, ?_⟩))
    go_ret
    exact ⟨by first | rfl | (simp; done) | (simp [*]; done), by repeat (first | exact Drawn0.refl _ | apply Drawn0.step)⟩

end Go.Proofs.Ytbnkdfmomcmmaaa.P


namespace Go.Proofs.Ytbnkdfmomcmmaaa.P
open Go.RowKit Go.Proofs.YtbnkdfmomcmmaaaW.PrintWords Go.Proofs.YtbnkdfmomcmmaaaW.PrintLast Go.Proofs.YtbnkdfmomcmmaaaW.PrintMore
attribute [local go_sem] max2_int min2_int max_two min_two max_three min_three max_four min_four   -- for this text's walks alone
set_option linter.unusedVariables false
set_option linter.unusedSimpArgs false

structure FrameBut (O : Nat → Prop) (w w' : World) : Prop where
  os : w'.os = w.os
  tape : w'.tape = w.tape
  output : w'.output = w.output
  size : w.heap.size ≤ w'.heap.size
  block : ∀ k, k < w.heap.size → ¬ O k → w'.heap[k]? = w.heap[k]?
theorem FrameBut.refl (O : Nat → Prop) (w : World) : FrameBut O w w := ⟨rfl, rfl, rfl, Nat.le_refl _, fun _ _ _ => rfl⟩
theorem FrameBut.trans {O O1 : Nat → Prop} {w w1 w2 : World} (h : FrameBut O w w1) (k : FrameBut O1 w1 w2) (hO : ∀ k, O1 k → O k ∨ w.heap.size ≤ k) : FrameBut O w w2 :=
  ⟨k.os.trans h.os, k.tape.trans h.tape, k.output.trans h.output, Nat.le_trans h.size k.size, fun i hi hn => (k.block i (Nat.lt_of_lt_of_le hi h.size) (fun h1 => (hO i h1).elim hn (fun h2 => absurd hi (Nat.not_lt.2 h2)))).trans (h.block i hi hn)⟩
theorem FrameBut.mono {O O1 : Nat → Prop} {w w1 : World} (h : FrameBut O w w1) (hO : ∀ k, k < w.heap.size → O k → O1 k) : FrameBut O1 w w1 :=
  ⟨h.os, h.tape, h.output, h.size, fun i hi hn => h.block i hi (fun h1 => hn (hO i hi h1))⟩
theorem FrameBut.of_below {O : Nat → Prop} {w w1 : World} (h : Below w.heap.size w w1) : FrameBut O w w1 := ⟨h.os, h.tape, h.output, h.size, fun i hi _ => h.block i hi⟩
theorem FrameBut.below {O : Nat → Prop} {w w1 w2 : World} (h : FrameBut O w w1) (k : Below w1.heap.size w1 w2) : FrameBut O w w2 := h.trans (FrameBut.of_below (O := O) k) (fun _ h => .inl h)
theorem FrameBut.alloc {O : Nat → Prop} {w w1 : World} (h : FrameBut O w w1) (o : Obj) : FrameBut O w (w1.alloc o) := h.below (below_alloc (Below.refl _ _) o)
theorem FrameBut.drew {O : Nat → Prop} {w w1 : World} (h : FrameBut O w w1) : FrameBut O w w1.drew := h.below (below_drew (Below.refl _ _))
theorem FrameBut.drewN {O : Nat → Prop} {w w1 : World} (h : FrameBut O w w1) (n : Nat) : FrameBut O w (w1.drewN n) := h.below (pw_below_drewN (Below.refl _ _) n)
theorem FrameBut.grown {O : Nat → Prop} {w w1 w2 : World} {row : Option Nat} (h : FrameBut O w w1) (hg : w1.grownBy w2 row) (hr : ∀ k, row = some k → O k ∨ w.heap.size ≤ k) : FrameBut O w w2 :=
  h.trans (O1 := fun k => row = some k) ⟨hg.os, hg.tape, hg.output, hg.size, fun k hk hn => hg.block k hk (fun e => hn e.symm)⟩ hr
theorem FrameBut.setCell {O : Nat → Prop} {w w1 : World} (h : FrameBut O w w1) {p : Addr} (hp : O p.block ∨ w.heap.size ≤ p.block) (u : Value) : FrameBut O w (w1.setCell p u) :=
  h.trans (O1 := fun k => k = p.block) ⟨rfl, rfl, rfl, by simp [World.setCell], fun k _ hn => Below.heap_setCell _ _ _ _ hn⟩ (fun k e => by rw [e]; exact hp)
theorem FrameBut.turned {O : Nat → Prop} {w w1 w2 : World} {b : Nat} (h : FrameBut O w w1) (ht : w1.mapTurned w2 b) (hb : O b ∨ w.heap.size ≤ b) : FrameBut O w w2 :=
  h.grown ht.grown (fun k e => by cases e; exact hb)
theorem FrameBut.toBelow {O : Nat → Prop} {w w1 : World} {B : Nat} (h : FrameBut O w w1) (hB : B ≤ w.heap.size) (hO : ∀ k, k < B → ¬ O k) : Below B w w1 :=
  ⟨h.os, h.tape, h.output, h.size, fun k hk => h.block k (Nat.lt_of_lt_of_le hk hB) (hO k hk)⟩
theorem FrameBut.cell {O : Nat → Prop} {w w1 : World} (h : FrameBut O w w1) {b i : Nat} {v : Value} (hc : w.cell? ⟨b, i, none⟩ = some v) (hn : ¬ O b) : w1.cell? ⟨b, i, none⟩ = some v :=
  (World.cell?_of_block (w := w) (a := ⟨b, i, none⟩) (h.block b (World.block_lt_of_cell? w _ hc) hn)).trans hc
structure CB (P : Program) (g : Nat) (lb : Array Value) {α : Type} (en : α → Value) (good : α → Prop) (max : Nat) (Inv : List α → (Nat → Prop) → World → Prop) : Prop where
  call : ∀ acc O W x, acc.length < max → good x → Inv acc O W → Calls P g (#[en x] ++ lb) W fun e w' => e = .returned (.tuple #[]) ∧ ∃ O', Inv (acc ++ [x]) O' w' ∧ FrameBut O W w' ∧ ∀ k, O' k → O k ∨ W.heap.size ≤ k
  move : ∀ acc O W W', Inv acc O W → W.heap.size ≤ W'.heap.size → W'.os = W.os → W'.tape = W.tape → W'.output = W.output → (∀ k, O k → W'.heap[k]? = W.heap[k]?) → Inv acc O W'
  lt : ∀ acc O W, Inv acc O W → ∀ k, O k → k < W.heap.size
theorem CB.frame {P : Program} {g : Nat} {lb : Array Value} {α : Type} {en : α → Value} {good : α → Prop} {max : Nat} {Inv : List α → (Nat → Prop) → World → Prop} (C : CB P g lb en good max Inv) {acc : List α} {O O1 : Nat → Prop} {W W' : World}
    (h : Inv acc O W) (hf : FrameBut O1 W W') (hd : ∀ k, O k → ¬ O1 k) : Inv acc O W' := C.move acc O W W' h hf.size hf.os hf.tape hf.output (fun k hk => hf.block k (C.lt acc O W h k hk) (hd k hk))
theorem CB.below {P : Program} {g : Nat} {lb : Array Value} {α : Type} {en : α → Value} {good : α → Prop} {max : Nat} {Inv : List α → (Nat → Prop) → World → Prop} (C : CB P g lb en good max Inv) {acc : List α} {O : Nat → Prop} {W W' : World}
    (h : Inv acc O W) (hb : Below W.heap.size W W') : Inv acc O W' := C.move acc O W W' h hb.size hb.os hb.tape hb.output (fun k hk => hb.block k (C.lt acc O W h k hk))

end Go.Proofs.Ytbnkdfmomcmmaaa.P


namespace Go.Proofs.Ytbnkdfmomcmmaaa.P
open Go.RowKit Go.Proofs.YtbnkdfmomcmmaaaW.PrintWords Go.Proofs.YtbnkdfmomcmmaaaW.PrintLast Go.Proofs.YtbnkdfmomcmmaaaW.PrintMore
attribute [local go_sem] max2_int min2_int max_two min_two max_three min_three max_four min_four   -- for this text's walks alone
set_option linter.unusedVariables false
set_option linter.unusedSimpArgs false

section
open Go.Maps
def heldR (v : Value) : Option (DataW Value × List MemPlace) := some (.held v, [])
def MapIs {κ : Type} (w : World) (P : Program) (k b m : Nat) (en : κ → Value) (f : κ → Option Value) : Prop :=
  ∃ D : DataW Value, w.ownsMap P k heldR b m D ∧ Maps.size D = m ∧ ∀ c kl, keyOf P k (en c) = some kl → Maps.has D kl = (f c).isSome ∧ ∀ z, D.atKey kl (.held z) = .held ((f c).getD z)
section
variable {κ : Type} {w w1 : World} {P : Program} {k b m : Nat} {en : κ → Value} {f : κ → Option Value}
theorem MapIs.made (w : World) (P : Program) (k : Nat) (en : κ → Value) : MapIs (w.alloc (.map #[] 0)) P k w.heap.size 0 en (fun _ => none) :=
  ⟨.map [], World.ownsMap_made w P k heldR, rfl, fun c kl _ => ⟨rfl, fun z => rfl⟩⟩
theorem MapIs.lt (h : MapIs w P k b m en f) : b < w.heap.size := by
  obtain ⟨D, h, _⟩ := h
  exact h.lt
theorem MapIs.move (h : MapIs w P k b m en f) (hm : w1.heap[b]? = w.heap[b]?) : MapIs w1 P k b m en f := by
  obtain ⟨D, ⟨es, clock, hb, F, hs, hD⟩, h2⟩ := h
  exact ⟨D, ⟨es, clock, hm.trans hb, F, hs, hD⟩, h2⟩
theorem MapIs.below (h : MapIs w P k b m en f) (hb : Below w.heap.size w w1) : MapIs w1 P k b m en f := h.move (hb.block b h.lt)
theorem MapIs.alloc (h : MapIs w P k b m en f) (o : Obj) : MapIs (w.alloc o) P k b m en f := h.below ((Below.refl _ _).alloc (Nat.le_refl _) o)
theorem MapIs.congr (h : MapIs w P k b m en f) {g : κ → Option Value} (hg : ∀ c kl, keyOf P k (en c) = some kl → g c = f c) : MapIs w P k b m en g := by
  obtain ⟨D, h1, h2, h3⟩ := h
  exact ⟨D, h1, h2, fun c kl hk => by rw [hg c kl hk]; exact h3 c kl hk⟩
theorem MapIs.look (h : MapIs w P k b m en f) (K : Keyed P k) {t e : TypeId} (ht : P.underlying t = some (.map k e)) {z : Value} (hz : (zeroValue e).run P w = .ok z w) {c : κ} {kl : Lit} (hkey : keyOf P k (en c) = some kl) :
    (Instr.lookup t (.map (some b)) (en c) false).run P w = .ok ((f c).getD z) w := by
  obtain ⟨D, h1, _, h3⟩ := h
  obtain ⟨v, ps, hrun, hv⟩ := h1.lookup K ht hz (zd := .held z) (zp := []) rfl hkey
  rw [(h3 c kl hkey).2] at hv
  simp only [heldR, Option.some.injEq, Prod.mk.injEq, DataW.held.injEq] at hv
  rw [hrun, hv.1]
theorem MapIs.store [DecidableEq κ] (h : MapIs w P k b m en f) (K : Keyed P k) {t e : TypeId} (ht : P.underlying t = some (.map k e)) (hn : m < maxLen) (hinj : ∀ a c, en a = en c → a = c) {c : κ} {kl : Lit} (hkey : keyOf P k (en c) = some kl) (v : Value) :
    ∃ w', (Instr.mapUpdate t (.map (some b)) (en c) v).run P w = .ok () w' ∧ MapIs w' P k b (if (f c).isSome then m else m + 1) en (fun a => if a = c then some v else f a) ∧ w.mapTurned w' b := by
  obtain ⟨D, h1, h2, h3⟩ := h
  obtain ⟨w', hrun, ho, ht'⟩ := h1.store K ht hn hkey (d := .held v) (ps := []) rfl
  have hsz : Maps.size (D.put kl (.held v)) = if (f c).isSome then m else m + 1 := by
    rw [size_put (h1.tidy K), (h3 c kl hkey).1, h2]
  refine ⟨w', hrun, ⟨D.put kl (.held v), ?_, hsz, fun a la hla => ?_⟩, ht'⟩
  · obtain ⟨es, clock, hb, F, hs, hD⟩ := ho
    refine ⟨es, clock, hb, F, ?_, hD⟩
    have e1 : Maps.size (D.put kl (.held v)) = es.size := by rw [hD]; simp [Maps.size, length_sorted]
    rw [← hsz, e1]
    exact Nat.le_refl _
  · by_cases hac : a = c
    · subst hac
      have : la = kl := Option.some.inj (hla.symm.trans hkey)
      subst this
      simp only [if_true]
      exact ⟨has_put_same h1.isMap (K.key hkey) _, fun z => atKey_put_same h1.isMap (K.key hkey) _ _⟩
    · simp only [if_neg hac]
      have hne : la ≠ kl := fun e => hac (hinj _ _ (K.inj (e ▸ hla) hkey))
      exact ⟨(has_put_other hne _).trans (h3 a la hla).1, fun z => (atKey_put_other hne _ _).trans ((h3 a la hla).2 z)⟩
theorem MapIs.drop [DecidableEq κ] (h : MapIs w P k b m en f) (K : Keyed P k) {t e : TypeId} (ht : P.underlying t = some (.map k e)) (hinj : ∀ a c, en a = en c → a = c) {c : κ} {kl : Lit} (hkey : keyOf P k (en c) = some kl) (ty : TypeId) :
    ∃ w', (Builtin.delete_ #[t, k] ty #[.map (some b), en c]).run P w = .ok (.tuple #[]) w' ∧ MapIs w' P k b (if (f c).isSome then m - 1 else m) en (fun a => if a = c then none else f a) ∧ w.mapTurned w' b := by
  obtain ⟨D, h1, h2, h3⟩ := h
  obtain ⟨w', hrun, ho, ht'⟩ := h1.drop K ht hkey ty
  have hsz : Maps.size (D.del kl) = if (f c).isSome then m - 1 else m := by
    have := size_del (k := kl) (h1.tidy K)
    rw [(h3 c kl hkey).1, h2] at this
    split at this <;> rename_i hx <;> simp [hx] <;> omega
  refine ⟨w', hrun, ⟨D.del kl, ?_, hsz, fun a la hla => ?_⟩, ht'⟩
  · obtain ⟨es, clock, hb, F, hs, hD⟩ := ho
    refine ⟨es, clock, hb, F, ?_, hD⟩
    have e1 : Maps.size (D.del kl) = es.size := by rw [hD]; simp [Maps.size, length_sorted]
    rw [← hsz, e1]
    exact Nat.le_refl _
  · by_cases hac : a = c
    · subst hac
      have : la = kl := Option.some.inj (hla.symm.trans hkey)
      subst this
      simp only [if_true]
      exact ⟨has_del_same, fun z => atKey_del_same _⟩
    · simp only [if_neg hac]
      have hne : la ≠ kl := fun e => hac (hinj _ _ (K.inj (e ▸ hla) hkey))
      exact ⟨(has_del_other hne).trans (h3 a la hla).1, fun z => (atKey_del_other hne _).trans ((h3 a la hla).2 z)⟩
end
end

end Go.Proofs.Ytbnkdfmomcmmaaa.P


namespace Go.Proofs.Ytbnkdfmomcmmaaa.P
open Go.RowKit Go.Proofs.YtbnkdfmomcmmaaaW.PrintWords Go.Proofs.YtbnkdfmomcmmaaaW.PrintLast Go.Proofs.YtbnkdfmomcmmaaaW.PrintMore
attribute [local go_sem] max2_int min2_int max_two min_two max_three min_three max_four min_four   -- for this text's walks alone
set_option linter.unusedVariables false
set_option linter.unusedSimpArgs false

section
open Go.Maps
theorem mapc_laid : laidOutB Try.prog = true := by kernel_rfl
theorem cornKeyed : Keyed Try.prog 43 := Keyed.of_law (deep_law_laid mapc_laid (m := 2) (by omega) (of_decide_eq_true (by kernel_rfl)) (by kernel_rfl) (by rw [Try.underlying43]))
def cornV (c : Int × Int) : Value := .agg #[.int .i64 c.1, .int .i64 c.2]
theorem cornV_inj (a c : Int × Int) (h : cornV a = cornV c) : a = c := by
  unfold cornV at h
  simp at h
  exact Prod.ext h.1 h.2
theorem cornKey (x y : Int) (hx : (Lit.int .i64 x).wf = true) (hy : (Lit.int .i64 y).wf = true) : keyOf Try.prog 43 (cornV (x, y)) = some (.string (keyBytes [.int .i64 x, .int .i64 y])) := by
  have h1 : Try.prog.keyType 43 = true := by kernel_rfl
  obtain ⟨m, hm⟩ : ∃ m, Try.prog.types.size = m + 1 := ⟨Try.prog.types.size.pred, by kernel_rfl⟩
  have h4 : Try.prog.cellsOf 43 = 2 := by kernel_rfl
  have h5 : Try.prog.cellsOf 3 = 1 := by kernel_rfl
  unfold cornV
  have hf : (Value.agg #[.int .i64 x, .int .i64 y]).formed Try.prog 43 = true := by
    simp [Value.formed, Try.underlying43, h4]
  have hl : Try.prog.keyLits (Try.prog.types.size + 1) 43 (Value.agg #[.int .i64 x, .int .i64 y]).cells.toList = some [.int .i64 x, .int .i64 y] := by
    rw [hm]
    simp [Program.keyLits, Try.underlying43, Try.underlying3, h4, h5, Value.cells, hx, hy]
  simp only [keyOf, Try.underlying43, h1, hf, hl]
  rfl
theorem i64_wf (x : Int) (h0 : -1000000 ≤ x) (h1 : x ≤ 1000000) : (Lit.int .i64 x).wf = true := WalkArith.wf_i64 (by omega)
end

end Go.Proofs.Ytbnkdfmomcmmaaa.P


namespace Go.Proofs.Ytbnkdfmomcmmaaa.P
open Go.RowKit Go.Proofs.YtbnkdfmomcmmaaaW.PrintWords Go.Proofs.YtbnkdfmomcmmaaaW.PrintLast Go.Proofs.YtbnkdfmomcmmaaaW.PrintMore
attribute [local go_sem] max2_int min2_int max_two min_two max_three min_three max_four min_four   -- for this text's walks alone
set_option linter.unusedVariables false
set_option linter.unusedSimpArgs false

def inS (S : List (Int × Int)) (c : Int × Int) : Option Value := if c ∈ S then some (.bool true) else none
theorem lookS {W : World} {bm ms : Nat} {S : List (Int × Int)} {x y : Int} {kl : Lit} (h : MapIs W Try.prog 43 bm ms cornV (inS S)) (hk : keyOf Try.prog 43 (cornV (x, y)) = some kl) (b : Bool) (hb : decide ((x, y) ∈ S) = b) :
    (Instr.lookup 45 (.map (some bm)) (.agg #[.int .i64 x, .int .i64 y]) false).run Try.prog W = .ok (.bool b) W := by
  have := h.look cornKeyed Try.underlying45 (z := .bool false) (by kernel_rfl) hk
  rw [show (inS S (x, y)).getD (.bool false) = .bool b from by subst hb; unfold inS; by_cases h : (x, y) ∈ S <;> simp [h]] at this
  exact this
theorem storeS {W : World} {bm ms : Nat} {S : List (Int × Int)} {x y : Int} {kl : Lit} (h : MapIs W Try.prog 43 bm ms cornV (inS S)) (hk : keyOf Try.prog 43 (cornV (x, y)) = some kl) (hn : (x, y) ∉ S) (hms : ms ≤ 1000000) :
    ∃ w', (Instr.mapUpdate 45 (.map (some bm)) (.agg #[.int .i64 x, .int .i64 y]) (.bool true)).run Try.prog W = .ok () w' ∧ MapIs w' Try.prog 43 bm (ms + 1) cornV (inS ((x, y) :: S)) ∧ W.mapTurned w' bm := by
  obtain ⟨w', hrun, hm, ht⟩ := h.store cornKeyed Try.underlying45 (by unfold maxLen; omega) cornV_inj hk (.bool true)
  refine ⟨w', hrun, ?_, ht⟩
  have e : (if (inS S (x, y)).isSome then ms else ms + 1) = ms + 1 := by unfold inS; simp [hn]
  rw [e] at hm
  exact hm.congr (fun a kl _ => by unfold inS; by_cases ha : a = (x, y) <;> simp [ha])
theorem dropS {W : World} {bm ms : Nat} {S : List (Int × Int)} {x y : Int} {kl : Lit} (h : MapIs W Try.prog 43 bm (ms + 1) cornV (inS ((x, y) :: S))) (hk : keyOf Try.prog 43 (cornV (x, y)) = some kl) (hn : (x, y) ∉ S) :
    ∃ w', (∀ ty, (Builtin.delete_ #[45, 43] ty #[.map (some bm), .agg #[.int .i64 x, .int .i64 y]]).run Try.prog W = .ok (.tuple #[]) w') ∧ MapIs w' Try.prog 43 bm ms cornV (inS S) ∧ W.mapTurned w' bm := by
  obtain ⟨w', hrun, hm, ht⟩ := h.drop cornKeyed Try.underlying45 cornV_inj hk 0
  refine ⟨w', fun ty => hrun, ?_, ht⟩
  have e : (if (inS ((x, y) :: S) (x, y)).isSome then ms + 1 - 1 else ms + 1) = ms := by unfold inS; simp
  rw [e] at hm
  exact hm.congr (fun a kl _ => by unfold inS; by_cases ha : a = (x, y) <;> simp [ha, hn])

end Go.Proofs.Ytbnkdfmomcmmaaa.P


namespace Go.Proofs.Ytbnkdfmomcmmaaa.P
open Go.RowKit Go.Proofs.YtbnkdfmomcmmaaaW.PrintWords Go.Proofs.YtbnkdfmomcmmaaaW.PrintLast Go.Proofs.YtbnkdfmomcmmaaaW.PrintMore
attribute [local go_sem] max2_int min2_int max_two min_two max_three min_three max_four min_four   -- for this text's walks alone
set_option linter.unusedVariables false
set_option linter.unusedSimpArgs false

def impl_Corner_next.f (a0_0 : Int) (a0_1 : Int) (a1 : Int) : Option (Int × Int) := if a1 = 110 then (some (a0_0, wrap64 (a0_1 - 1))) else (if a1 = 101 then (some (wrap64 (a0_0 + 1), a0_1)) else (if a1 = 115 then (some (a0_0, wrap64 (a0_1 + 1))) else (some (wrap64 (a0_0 - 1), a0_1))))
set_option maxHeartbeats 8000000 in
set_option maxRecDepth 100000 in
theorem impl_Corner_next.calls (a0_0 : Int) (a0_1 : Int) (a1 : Int) (r1 : Int) (r2 : Int) (w : World) (h : impl_Corner_next.f a0_0 a0_1 a1 = some (r1, r2)) :
    Calls Try.prog 32 #[.agg #[.int .i64 a0_0, .int .i64 a0_1], .int .u8 a1] w fun e w' => e = .returned (.agg #[.int .i64 r1, .int .i64 r2]) ∧ Below w.heap.size w w' := by
  have hu43 := Try.underlying43
  have HB := Aside0.mk (Below.refl w.heap.size w)
  have H : (if a1 = 110 then (some (a0_0, wrap64 (a0_1 - 1))) else (if a1 = 101 then (some (wrap64 (a0_0 + 1), a0_1)) else (if a1 = 115 then (some (a0_0, wrap64 (a0_1 + 1))) else (some (wrap64 (a0_0 - 1), a0_1))))) = some (r1, r2) := h
  clear h
  by_cases c3 : a1 = 110
  · rw [if_pos c3] at H
    have c3b0 : (a1 == 110) = true := beq_iff_eq.mpr c3
    have c3b1 : (a1 != 110) = false := bne_eq_false_iff_eq.mpr c3
    clear c3
    simp only [Option.some.injEq, Prod.mk.injEq] at H
    obtain ⟨rfl, rfl⟩ := H
    go_enter Try.func32, Try.ntmps32
    go_wp2_with (first | ((with_reducible refine gate_dst (N := 2) rfl ?_); refine box_event ?hg (N := 2) ?hd (cs := #[.int .i64 a0_0, .int .i64 a0_1]) (t := 43) ?hr ?_; (case hd => rfl); (case hg => rfl); (case hr => first | (go_simp; done) | (go_simp; rfl)); intro gb153 hg w4 hbox hb; have n0_ := Aside0.mk (below_step (by repeat (first | (with_reducible first | exact HB.out | apply below_alloc | apply pw_below_drewN | apply below_drew1) | exact HB.out)) hb); have n1_ := Aside0.mk (hbox); have n2_ := Aside0.mk ((by rw [hg]; exact (below_size (by repeat (first | (with_reducible first | exact HB.out | apply below_alloc | apply pw_below_drewN | apply below_drew1) | exact HB.out))) : w.heap.size ≤ gb153)); have n3_ := Aside0.mk ((by rw [hg]; exact (below_size (by repeat (first | (with_reducible first | exact HB.out | apply below_alloc | apply pw_below_drewN | apply below_drew1) | exact HB.out))) : w.heap.size ≤ gb153)); clear HB; have HB := n0_; have BK153 := n1_; have GW153 := n2_; have GE153 := n3_; clear n0_ n1_ n2_ n3_; clear hb hbox hg) | ((with_reducible refine gate_dst (N := 4) rfl ?_); refine box_event ?hg (N := 4) ?hd (cs := #[.int .i64 0, .int .i64 0]) (t := 43) ?hr ?_; (case hd => rfl); (case hg => rfl); (case hr => first | (go_simp; done) | (go_simp; rfl)); intro gb154 hg w5 hbox hb; have n0_ := Aside0.mk (blk_below (g := gb153) (o := .cells #[.int .i64 a0_0, .int .i64 a0_1] 43 (0, 0)) (by (with_reducible repeat (first | refine blk_drewN ?_ _ | refine blk_drew ?_ | refine blk_alloc ?_ _)); exact BK153.out) hb); have n1_ := Aside0.mk (below_step (by repeat (first | (with_reducible first | exact HB.out | apply below_alloc | apply pw_below_drewN | apply below_drew1 | refine below_set ?_ GE153.out) | exact HB.out)) hb); have n2_ := Aside0.mk (hbox); have n3_ := Aside0.mk ((by rw [hg]; exact (below_size (by repeat (first | (with_reducible first | exact HB.out | apply below_alloc | apply pw_below_drewN | apply below_drew1 | refine below_set ?_ GE153.out) | exact HB.out))) : w.heap.size ≤ gb154)); have n4_ := Aside0.mk ((by rw [hg]; exact (below_size (by repeat (first | (with_reducible first | exact HB.out | apply below_alloc | apply pw_below_drewN | apply below_drew1 | refine below_set ?_ GE153.out) | exact HB.out))) : w.heap.size ≤ gb154)); have n5_ := Aside0.mk ((by rw [hg]; exact Nat.ne_of_lt (blk_lt (g := gb153) (o := .cells #[.int .i64 a0_0, .int .i64 a0_1] 43 (0, 0)) (by (with_reducible repeat (first | refine blk_drewN ?_ _ | refine blk_drew ?_ | refine blk_alloc ?_ _)); exact BK153.out)) : gb153 ≠ gb154)); have n6_ := Aside0.mk ((by rw [hg]; exact Nat.ne_of_gt (blk_lt (g := gb153) (o := .cells #[.int .i64 a0_0, .int .i64 a0_1] 43 (0, 0)) (by (with_reducible repeat (first | refine blk_drewN ?_ _ | refine blk_drew ?_ | refine blk_alloc ?_ _)); exact BK153.out)) : gb154 ≠ gb153)); clear BK153; clear HB; have BK153 := n0_; have HB := n1_; have BK154 := n2_; have GW154 := n3_; have GE154 := n4_; have NB153_154 := n5_; have NB154_153 := n6_; clear n0_ n1_ n2_ n3_ n4_ n5_ n6_; clear hb hbox hg; have hnb6 := NB153_154.out; have hnc6 := NB154_153.out; have hcz7_0 : w5.cell? ⟨gb153, 0, none⟩ = some (.int .i64 a0_0) := (blk_cell BK153.out 0).trans rfl; have hcz7_1 : w5.cell? ⟨gb153, 1, none⟩ = some (.int .i64 a0_1) := (blk_cell BK153.out 1).trans rfl; have hfz7_0 := blk_frozen BK153.out 0; have hfz7_1 := blk_frozen BK153.out 1; have hcz8_0 : w5.cell? ⟨gb154, 0, none⟩ = some (.int .i64 0) := (blk_cell BK154.out 0).trans rfl; have hcz8_1 : w5.cell? ⟨gb154, 1, none⟩ = some (.int .i64 0) := (blk_cell BK154.out 1).trans rfl; have hfz8_0 := blk_frozen BK154.out 0; have hfz8_1 := blk_frozen BK154.out 1))
    refine bodyPost_ret (results_cell_row rfl _ _ gb154 43 #[.int .i64 a0_0, .int .i64 (wrap64 (a0_1 - 1))] (0, 0) _ rfl (by (with_reducible repeat (first | refine blk_drewN ?_ _ | refine blk_drew ?_ | refine blk_alloc ?_ _)); refine blk_put (cs := #[.int .i64 a0_0, .int .i64 0]) ?_ 1 _ rfl; (with_reducible repeat (first | refine blk_drewN ?_ _ | refine blk_drew ?_ | refine blk_alloc ?_ _)); refine blk_put (cs := #[.int .i64 0, .int .i64 0]) ?_ 0 _ rfl; (with_reducible repeat (first | refine blk_drewN ?_ _ | refine blk_drew ?_ | refine blk_alloc ?_ _)); exact BK154.out) Try.underlying43 rfl (by kernel_rfl)) rfl ?_
    exact ⟨by first | rfl | (simp [errW_none, errW_some] <;> rfl) | (simp [*, errW_none, errW_some] <;> rfl), by repeat (first | (with_reducible first | exact HB.out | apply below_alloc | apply pw_below_drewN | apply below_drew1 | refine below_set ?_ GE153.out | refine below_set ?_ GE154.out) | exact HB.out)⟩
  · rw [if_neg c3] at H
    have c3b0 : (a1 == 110) = false := beq_eq_false_iff_ne.mpr c3
    have c3b1 : (a1 != 110) = true := bne_iff_ne.mpr c3
    by_cases c9 : a1 = 101
    · rw [if_pos c9] at H
      have c9b0 : (a1 == 101) = true := beq_iff_eq.mpr c9
      have c9b1 : (a1 != 101) = false := bne_eq_false_iff_eq.mpr c9
      clear c9
      simp only [Option.some.injEq, Prod.mk.injEq] at H
      obtain ⟨rfl, rfl⟩ := H
      go_enter Try.func32, Try.ntmps32
      go_wp2_with (first | ((with_reducible refine gate_dst (N := 2) rfl ?_); refine box_event ?hg (N := 2) ?hd (cs := #[.int .i64 a0_0, .int .i64 a0_1]) (t := 43) ?hr ?_; (case hd => rfl); (case hg => rfl); (case hr => first | (go_simp; done) | (go_simp; rfl)); intro gb153 hg w10 hbox hb; have n0_ := Aside0.mk (below_step (by repeat (first | (with_reducible first | exact HB.out | apply below_alloc | apply pw_below_drewN | apply below_drew1) | exact HB.out)) hb); have n1_ := Aside0.mk (hbox); have n2_ := Aside0.mk ((by rw [hg]; exact (below_size (by repeat (first | (with_reducible first | exact HB.out | apply below_alloc | apply pw_below_drewN | apply below_drew1) | exact HB.out))) : w.heap.size ≤ gb153)); have n3_ := Aside0.mk ((by rw [hg]; exact (below_size (by repeat (first | (with_reducible first | exact HB.out | apply below_alloc | apply pw_below_drewN | apply below_drew1) | exact HB.out))) : w.heap.size ≤ gb153)); clear HB; have HB := n0_; have BK153 := n1_; have GW153 := n2_; have GE153 := n3_; clear n0_ n1_ n2_ n3_; clear hb hbox hg) | ((with_reducible refine gate_dst (N := 4) rfl ?_); refine box_event ?hg (N := 4) ?hd (cs := #[.int .i64 0, .int .i64 0]) (t := 43) ?hr ?_; (case hd => rfl); (case hg => rfl); (case hr => first | (go_simp; done) | (go_simp; rfl)); intro gb154 hg w11 hbox hb; have n0_ := Aside0.mk (blk_below (g := gb153) (o := .cells #[.int .i64 a0_0, .int .i64 a0_1] 43 (0, 0)) (by (with_reducible repeat (first | refine blk_drewN ?_ _ | refine blk_drew ?_ | refine blk_alloc ?_ _)); exact BK153.out) hb); have n1_ := Aside0.mk (below_step (by repeat (first | (with_reducible first | exact HB.out | apply below_alloc | apply pw_below_drewN | apply below_drew1 | refine below_set ?_ GE153.out) | exact HB.out)) hb); have n2_ := Aside0.mk (hbox); have n3_ := Aside0.mk ((by rw [hg]; exact (below_size (by repeat (first | (with_reducible first | exact HB.out | apply below_alloc | apply pw_below_drewN | apply below_drew1 | refine below_set ?_ GE153.out) | exact HB.out))) : w.heap.size ≤ gb154)); have n4_ := Aside0.mk ((by rw [hg]; exact (below_size (by repeat (first | (with_reducible first | exact HB.out | apply below_alloc | apply pw_below_drewN | apply below_drew1 | refine below_set ?_ GE153.out) | exact HB.out))) : w.heap.size ≤ gb154)); have n5_ := Aside0.mk ((by rw [hg]; exact Nat.ne_of_lt (blk_lt (g := gb153) (o := .cells #[.int .i64 a0_0, .int .i64 a0_1] 43 (0, 0)) (by (with_reducible repeat (first | refine blk_drewN ?_ _ | refine blk_drew ?_ | refine blk_alloc ?_ _)); exact BK153.out)) : gb153 ≠ gb154)); have n6_ := Aside0.mk ((by rw [hg]; exact Nat.ne_of_gt (blk_lt (g := gb153) (o := .cells #[.int .i64 a0_0, .int .i64 a0_1] 43 (0, 0)) (by (with_reducible repeat (first | refine blk_drewN ?_ _ | refine blk_drew ?_ | refine blk_alloc ?_ _)); exact BK153.out)) : gb154 ≠ gb153)); clear BK153; clear HB; have BK153 := n0_; have HB := n1_; have BK154 := n2_; have GW154 := n3_; have GE154 := n4_; have NB153_154 := n5_; have NB154_153 := n6_; clear n0_ n1_ n2_ n3_ n4_ n5_ n6_; clear hb hbox hg; have hnb12 := NB153_154.out; have hnc12 := NB154_153.out; have hcz13_0 : w11.cell? ⟨gb153, 0, none⟩ = some (.int .i64 a0_0) := (blk_cell BK153.out 0).trans rfl; have hcz13_1 : w11.cell? ⟨gb153, 1, none⟩ = some (.int .i64 a0_1) := (blk_cell BK153.out 1).trans rfl; have hfz13_0 := blk_frozen BK153.out 0; have hfz13_1 := blk_frozen BK153.out 1; have hcz14_0 : w11.cell? ⟨gb154, 0, none⟩ = some (.int .i64 0) := (blk_cell BK154.out 0).trans rfl; have hcz14_1 : w11.cell? ⟨gb154, 1, none⟩ = some (.int .i64 0) := (blk_cell BK154.out 1).trans rfl; have hfz14_0 := blk_frozen BK154.out 0; have hfz14_1 := blk_frozen BK154.out 1))
      refine bodyPost_ret (results_cell_row rfl _ _ gb154 43 #[.int .i64 (wrap64 (a0_0 + 1)), .int .i64 a0_1] (0, 0) _ rfl (by (with_reducible repeat (first | refine blk_drewN ?_ _ | refine blk_drew ?_ | refine blk_alloc ?_ _)); refine blk_put (cs := #[.int .i64 (wrap64 (a0_0 + 1)), .int .i64 0]) ?_ 1 _ rfl; (with_reducible repeat (first | refine blk_drewN ?_ _ | refine blk_drew ?_ | refine blk_alloc ?_ _)); refine blk_put (cs := #[.int .i64 0, .int .i64 0]) ?_ 0 _ rfl; (with_reducible repeat (first | refine blk_drewN ?_ _ | refine blk_drew ?_ | refine blk_alloc ?_ _)); exact BK154.out) Try.underlying43 rfl (by kernel_rfl)) rfl ?_
      exact ⟨by first | rfl | (simp [errW_none, errW_some] <;> rfl) | (simp [*, errW_none, errW_some] <;> rfl), by repeat (first | (with_reducible first | exact HB.out | apply below_alloc | apply pw_below_drewN | apply below_drew1 | refine below_set ?_ GE153.out | refine below_set ?_ GE154.out) | exact HB.out)⟩
    · rw [if_neg c9] at H
      have c9b0 : (a1 == 101) = false := beq_eq_false_iff_ne.mpr c9
      have c9b1 : (a1 != 101) = true := bne_iff_ne.mpr c9
      by_cases c15 : a1 = 115
      · rw [if_pos c15] at H
        have c15b0 : (a1 == 115) = true := beq_iff_eq.mpr c15
        have c15b1 : (a1 != 115) = false := bne_eq_false_iff_eq.mpr c15
        clear c15
        simp only [Option.some.injEq, Prod.mk.injEq] at H
        obtain ⟨rfl, rfl⟩ := H
        go_enter Try.func32, Try.ntmps32
        go_wp2_with (first | ((with_reducible refine gate_dst (N := 2) rfl ?_); refine box_event ?hg (N := 2) ?hd (cs := #[.int .i64 a0_0, .int .i64 a0_1]) (t := 43) ?hr ?_; (case hd => rfl); (case hg => rfl); (case hr => first | (go_simp; done) | (go_simp; rfl)); intro gb153 hg w16 hbox hb; have n0_ := Aside0.mk (below_step (by repeat (first | (with_reducible first | exact HB.out | apply below_alloc | apply pw_below_drewN | apply below_drew1) | exact HB.out)) hb); have n1_ := Aside0.mk (hbox); have n2_ := Aside0.mk ((by rw [hg]; exact (below_size (by repeat (first | (with_reducible first | exact HB.out | apply below_alloc | apply pw_below_drewN | apply below_drew1) | exact HB.out))) : w.heap.size ≤ gb153)); have n3_ := Aside0.mk ((by rw [hg]; exact (below_size (by repeat (first | (with_reducible first | exact HB.out | apply below_alloc | apply pw_below_drewN | apply below_drew1) | exact HB.out))) : w.heap.size ≤ gb153)); clear HB; have HB := n0_; have BK153 := n1_; have GW153 := n2_; have GE153 := n3_; clear n0_ n1_ n2_ n3_; clear hb hbox hg) | ((with_reducible refine gate_dst (N := 4) rfl ?_); refine box_event ?hg (N := 4) ?hd (cs := #[.int .i64 0, .int .i64 0]) (t := 43) ?hr ?_; (case hd => rfl); (case hg => rfl); (case hr => first | (go_simp; done) | (go_simp; rfl)); intro gb154 hg w17 hbox hb; have n0_ := Aside0.mk (blk_below (g := gb153) (o := .cells #[.int .i64 a0_0, .int .i64 a0_1] 43 (0, 0)) (by (with_reducible repeat (first | refine blk_drewN ?_ _ | refine blk_drew ?_ | refine blk_alloc ?_ _)); exact BK153.out) hb); have n1_ := Aside0.mk (below_step (by repeat (first | (with_reducible first | exact HB.out | apply below_alloc | apply pw_below_drewN | apply below_drew1 | refine below_set ?_ GE153.out) | exact HB.out)) hb); have n2_ := Aside0.mk (hbox); have n3_ := Aside0.mk ((by rw [hg]; exact (below_size (by repeat (first | (with_reducible first | exact HB.out | apply below_alloc | apply pw_below_drewN | apply below_drew1 | refine below_set ?_ GE153.out) | exact HB.out))) : w.heap.size ≤ gb154)); have n4_ := Aside0.mk ((by rw [hg]; exact (below_size (by repeat (first | (with_reducible first | exact HB.out | apply below_alloc | apply pw_below_drewN | apply below_drew1 | refine below_set ?_ GE153.out) | exact HB.out))) : w.heap.size ≤ gb154)); have n5_ := Aside0.mk ((by rw [hg]; exact Nat.ne_of_lt (blk_lt (g := gb153) (o := .cells #[.int .i64 a0_0, .int .i64 a0_1] 43 (0, 0)) (by (with_reducible repeat (first | refine blk_drewN ?_ _ | refine blk_drew ?_ | refine blk_alloc ?_ _)); exact BK153.out)) : gb153 ≠ gb154)); have n6_ := Aside0.mk ((by rw [hg]; exact Nat.ne_of_gt (blk_lt (g := gb153) (o := .cells #[.int .i64 a0_0, .int .i64 a0_1] 43 (0, 0)) (by (with_reducible repeat (first | refine blk_drewN ?_ _ | refine blk_drew ?_ | refine blk_alloc ?_ _)); exact BK153.out)) : gb154 ≠ gb153)); clear BK153; clear HB; have BK153 := n0_; have HB := n1_; have BK154 := n2_; have GW154 := n3_; have GE154 := n4_; have NB153_154 := n5_; have NB154_153 := n6_; clear n0_ n1_ n2_ n3_ n4_ n5_ n6_; clear hb hbox hg; have hnb18 := NB153_154.out; have hnc18 := NB154_153.out; have hcz19_0 : w17.cell? ⟨gb153, 0, none⟩ = some (.int .i64 a0_0) := (blk_cell BK153.out 0).trans rfl; have hcz19_1 : w17.cell? ⟨gb153, 1, none⟩ = some (.int .i64 a0_1) := (blk_cell BK153.out 1).trans rfl; have hfz19_0 := blk_frozen BK153.out 0; have hfz19_1 := blk_frozen BK153.out 1; have hcz20_0 : w17.cell? ⟨gb154, 0, none⟩ = some (.int .i64 0) := (blk_cell BK154.out 0).trans rfl; have hcz20_1 : w17.cell? ⟨gb154, 1, none⟩ = some (.int .i64 0) := (blk_cell BK154.out 1).trans rfl; have hfz20_0 := blk_frozen BK154.out 0; have hfz20_1 := blk_frozen BK154.out 1))
        refine bodyPost_ret (results_cell_row rfl _ _ gb154 43 #[.int .i64 a0_0, .int .i64 (wrap64 (a0_1 + 1))] (0, 0) _ rfl (by (with_reducible repeat (first | refine blk_drewN ?_ _ | refine blk_drew ?_ | refine blk_alloc ?_ _)); refine blk_put (cs := #[.int .i64 a0_0, .int .i64 0]) ?_ 1 _ rfl; (with_reducible repeat (first | refine blk_drewN ?_ _ | refine blk_drew ?_ | refine blk_alloc ?_ _)); refine blk_put (cs := #[.int .i64 0, .int .i64 0]) ?_ 0 _ rfl; (with_reducible repeat (first | refine blk_drewN ?_ _ | refine blk_drew ?_ | refine blk_alloc ?_ _)); exact BK154.out) Try.underlying43 rfl (by kernel_rfl)) rfl ?_
        exact ⟨by first | rfl | (simp [errW_none, errW_some] <;> rfl) | (simp [*, errW_none, errW_some] <;> rfl), by repeat (first | (with_reducible first | exact HB.out | apply below_alloc | apply pw_below_drewN | apply below_drew1 | refine below_set ?_ GE153.out | refine below_set ?_ GE154.out) | exact HB.out)⟩
      · rw [if_neg c15] at H
        have c15b0 : (a1 == 115) = false := beq_eq_false_iff_ne.mpr c15
        have c15b1 : (a1 != 115) = true := bne_iff_ne.mpr c15
        simp only [Option.some.injEq, Prod.mk.injEq] at H
        obtain ⟨rfl, rfl⟩ := H
        go_enter Try.func32, Try.ntmps32
        go_wp2_with (first | ((with_reducible refine gate_dst (N := 2) rfl ?_); refine box_event ?hg (N := 2) ?hd (cs := #[.int .i64 a0_0, .int .i64 a0_1]) (t := 43) ?hr ?_; (case hd => rfl); (case hg => rfl); (case hr => first | (go_simp; done) | (go_simp; rfl)); intro gb153 hg w21 hbox hb; have n0_ := Aside0.mk (below_step (by repeat (first | (with_reducible first | exact HB.out | apply below_alloc | apply pw_below_drewN | apply below_drew1) | exact HB.out)) hb); have n1_ := Aside0.mk (hbox); have n2_ := Aside0.mk ((by rw [hg]; exact (below_size (by repeat (first | (with_reducible first | exact HB.out | apply below_alloc | apply pw_below_drewN | apply below_drew1) | exact HB.out))) : w.heap.size ≤ gb153)); have n3_ := Aside0.mk ((by rw [hg]; exact (below_size (by repeat (first | (with_reducible first | exact HB.out | apply below_alloc | apply pw_below_drewN | apply below_drew1) | exact HB.out))) : w.heap.size ≤ gb153)); clear HB; have HB := n0_; have BK153 := n1_; have GW153 := n2_; have GE153 := n3_; clear n0_ n1_ n2_ n3_; clear hb hbox hg) | ((with_reducible refine gate_dst (N := 4) rfl ?_); refine box_event ?hg (N := 4) ?hd (cs := #[.int .i64 0, .int .i64 0]) (t := 43) ?hr ?_; (case hd => rfl); (case hg => rfl); (case hr => first | (go_simp; done) | (go_simp; rfl)); intro gb154 hg w22 hbox hb; have n0_ := Aside0.mk (blk_below (g := gb153) (o := .cells #[.int .i64 a0_0, .int .i64 a0_1] 43 (0, 0)) (by (with_reducible repeat (first | refine blk_drewN ?_ _ | refine blk_drew ?_ | refine blk_alloc ?_ _)); exact BK153.out) hb); have n1_ := Aside0.mk (below_step (by repeat (first | (with_reducible first | exact HB.out | apply below_alloc | apply pw_below_drewN | apply below_drew1 | refine below_set ?_ GE153.out) | exact HB.out)) hb); have n2_ := Aside0.mk (hbox); have n3_ := Aside0.mk ((by rw [hg]; exact (below_size (by repeat (first | (with_reducible first | exact HB.out | apply below_alloc | apply pw_below_drewN | apply below_drew1 | refine below_set ?_ GE153.out) | exact HB.out))) : w.heap.size ≤ gb154)); have n4_ := Aside0.mk ((by rw [hg]; exact (below_size (by repeat (first | (with_reducible first | exact HB.out | apply below_alloc | apply pw_below_drewN | apply below_drew1 | refine below_set ?_ GE153.out) | exact HB.out))) : w.heap.size ≤ gb154)); have n5_ := Aside0.mk ((by rw [hg]; exact Nat.ne_of_lt (blk_lt (g := gb153) (o := .cells #[.int .i64 a0_0, .int .i64 a0_1] 43 (0, 0)) (by (with_reducible repeat (first | refine blk_drewN ?_ _ | refine blk_drew ?_ | refine blk_alloc ?_ _)); exact BK153.out)) : gb153 ≠ gb154)); have n6_ := Aside0.mk ((by rw [hg]; exact Nat.ne_of_gt (blk_lt (g := gb153) (o := .cells #[.int .i64 a0_0, .int .i64 a0_1] 43 (0, 0)) (by (with_reducible repeat (first | refine blk_drewN ?_ _ | refine blk_drew ?_ | refine blk_alloc ?_ _)); exact BK153.out)) : gb154 ≠ gb153)); clear BK153; clear HB; have BK153 := n0_; have HB := n1_; have BK154 := n2_; have GW154 := n3_; have GE154 := n4_; have NB153_154 := n5_; have NB154_153 := n6_; clear n0_ n1_ n2_ n3_ n4_ n5_ n6_; clear hb hbox hg; have hnb23 := NB153_154.out; have hnc23 := NB154_153.out; have hcz24_0 : w22.cell? ⟨gb153, 0, none⟩ = some (.int .i64 a0_0) := (blk_cell BK153.out 0).trans rfl; have hcz24_1 : w22.cell? ⟨gb153, 1, none⟩ = some (.int .i64 a0_1) := (blk_cell BK153.out 1).trans rfl; have hfz24_0 := blk_frozen BK153.out 0; have hfz24_1 := blk_frozen BK153.out 1; have hcz25_0 : w22.cell? ⟨gb154, 0, none⟩ = some (.int .i64 0) := (blk_cell BK154.out 0).trans rfl; have hcz25_1 : w22.cell? ⟨gb154, 1, none⟩ = some (.int .i64 0) := (blk_cell BK154.out 1).trans rfl; have hfz25_0 := blk_frozen BK154.out 0; have hfz25_1 := blk_frozen BK154.out 1))
        refine bodyPost_ret (results_cell_row rfl _ _ gb154 43 #[.int .i64 (wrap64 (a0_0 - 1)), .int .i64 a0_1] (0, 0) _ rfl (by (with_reducible repeat (first | refine blk_drewN ?_ _ | refine blk_drew ?_ | refine blk_alloc ?_ _)); refine blk_put (cs := #[.int .i64 (wrap64 (a0_0 - 1)), .int .i64 0]) ?_ 1 _ rfl; (with_reducible repeat (first | refine blk_drewN ?_ _ | refine blk_drew ?_ | refine blk_alloc ?_ _)); refine blk_put (cs := #[.int .i64 0, .int .i64 0]) ?_ 0 _ rfl; (with_reducible repeat (first | refine blk_drewN ?_ _ | refine blk_drew ?_ | refine blk_alloc ?_ _)); exact BK154.out) Try.underlying43 rfl (by kernel_rfl)) rfl ?_
        exact ⟨by first | rfl | (simp [errW_none, errW_some] <;> rfl) | (simp [*, errW_none, errW_some] <;> rfl), by repeat (first | (with_reducible first | exact HB.out | apply below_alloc | apply pw_below_drewN | apply below_drew1 | refine below_set ?_ GE153.out | refine below_set ?_ GE154.out) | exact HB.out)⟩

end Go.Proofs.Ytbnkdfmomcmmaaa.P


namespace Go.Proofs.Ytbnkdfmomcmmaaa.P
open Go.RowKit Go.Proofs.YtbnkdfmomcmmaaaW.PrintWords Go.Proofs.YtbnkdfmomcmmaaaW.PrintLast Go.Proofs.YtbnkdfmomcmmaaaW.PrintMore
attribute [local go_sem] max2_int min2_int max_two min_two max_three min_three max_four min_four   -- for this text's walks alone
set_option linter.unusedVariables false
set_option linter.unusedSimpArgs false

theorem equalIn_some_nil {P : Program} {t e : TypeId} (h : P.underlying t = some (.slice e)) (w : World) (d : Nat) (a : Addr) (n c n' c' : Nat) :
    (Op.equalIn (d + 1) t (.slice (some a) n c) (.slice none n' c')).run P w = .ok false w := by
  simp [Op.equalIn, run_underlying h]
theorem eql_some_nil {P : Program} {t e : TypeId} (h : P.underlying t = some (.slice e)) (w : World) (a : Addr) (n c : Nat) :
    (binOp .eql t (.slice (some a) n c) (.slice none 0 0)).run P w = .ok (.bool false) w := by
  simp only [binOp]
  simp [Op.equal, Op.maxDepth, equalIn_some_nil h w 9999 a n c 0 0]
end Go.Proofs.Ytbnkdfmomcmmaaa.P


namespace Go.Proofs.Ytbnkdfmomcmmaaa.P
open Go.RowKit Go.Proofs.YtbnkdfmomcmmaaaW.PrintWords Go.Proofs.YtbnkdfmomcmmaaaW.PrintLast Go.Proofs.YtbnkdfmomcmmaaaW.PrintMore
attribute [local go_sem] max2_int min2_int max_two min_two max_three min_three max_four min_four   -- for this text's walks alone
set_option linter.unusedVariables false
set_option linter.unusedSimpArgs false

set_option maxHeartbeats 2000000 in
theorem cloneB_any (a0 : Addr) (c0 : Nat) (l0 : List Int) (w : World) (hr0 : Kd.C (Kd.int .u8) w (some a0) l0.length l0) (hl : l0.length ≤ 1000000) :
    Calls Try.prog 33 #[.slice (some a0) l0.length c0] w fun e w' => ∃ v, e = .returned v ∧ Kd.R (Kd.int .u8) 5 w' w.heap.size (fun _ => True) v l0 ∧ Below w.heap.size w w' := by
  have HR := Aside0.mk (Kd.reads_of_C (d := (0 : Int)) hr0)
  have HL := Aside0.mk hl
  clear hr0 hl
  have hi5 : (Try.prog.info? 5).map (fun i => (i.zero, i.size, i.bytes)) = some (some (.int .u8 0), 1, 1) := by kernel_rfl
  have heq := fun w n c => eql_some_nil (P := Try.prog) Try.underlying47 w a0 n c
  go_enter Try.func33, Try.ntmps33
  go_wp2_with ((at_builtin; refine print_append_row (w0 := w) w.heap.size rfl _ _ _ _ .u8 1 rfl Try.underlying47 hi5 (by decide) (.slice (some ⟨w.heap.size, 0, none⟩) 0 0) [] l0 _ _ _ rfl rfl ?xA ?xB ?xC ?xD ?xE ?_; (case xA => exact own_lit w w.heap.size 5 .u8 [] (Nat.le_refl _) (by simp)); (case xB => exact ReadsInt.below HR.out (below_alloc (Below.refl _ _) _)); (case xC => exact below_alloc (Below.refl _ _) _); (case xD => simp); (case xE => first | omega | (have h_ := HL.out; simp; omega)); intro v1 w1 ho hb hg hat; have HO : Aside0 (Kd.R (Kd.int .u8) 5 w1 w.heap.size (fun _ => True) v1 l0) := ⟨Kd.R_of_own (enc := Value.int .u8) (h1 := fun _ => rfl) ho (fun _ _ => trivial)⟩; have HB := Aside0.mk hb; clear ho hb hg hat))
  go_ret
  exact ⟨_, rfl, HO.out, HB.out⟩

end Go.Proofs.Ytbnkdfmomcmmaaa.P


namespace Go.Proofs.Ytbnkdfmomcmmaaa.P
open Go.RowKit Go.Proofs.YtbnkdfmomcmmaaaW.PrintWords Go.Proofs.YtbnkdfmomcmmaaaW.PrintLast Go.Proofs.YtbnkdfmomcmmaaaW.PrintMore
attribute [local go_sem] max2_int min2_int max_two min_two max_three min_three max_four min_four   -- for this text's walks alone
set_option linter.unusedVariables false
set_option linter.unusedSimpArgs false

attribute [local go_sem high] eqA43
def nx4 (x d : Int) : Int := if d = 101 then x + 1 else if d = 119 then x - 1 else x
def ny4 (y d : Int) : Int := if d = 110 then y - 1 else if d = 115 then y + 1 else y
def pieceW (F : List (Int × Int) → List Int → Int → Int → List (List Int)) (m : Nat) (S : List (Int × Int)) (word : List Int) (x y d : Int) : List (List Int) :=
  if nx4 x d = 0 ∧ ny4 y d = 0 ∧ m = 0 then F S (word ++ [d]) (nx4 x d) (ny4 y d)
  else if (nx4 x d, ny4 y d) ∈ S ∨ ny4 y d < 0 ∨ (ny4 y d = 0 ∧ nx4 x d < 0) ∨ (m : Int) + 1 ≤ max (nx4 x d) (-(nx4 x d)) + ny4 y d then []
  else F ((nx4 x d, ny4 y d) :: S) (word ++ [d]) (nx4 x d) (ny4 y d)
def walkW : Nat → List (Int × Int) → List Int → Int → Int → List (List Int)
  | 0, _, word, x, y => if x = 0 ∧ y = 0 then [word] else []
  | m + 1, S, word, x, y => ([110, 101, 115, 119] : List Int).flatMap (pieceW (walkW m) m S word x y)
def LoopsPost (acc : List (List Int)) (ws : List (List Int)) (O : Nat → Prop) (Inv : List (List Int) → (Nat → Prop) → World → Prop) (bm ms : Nat) (S : List (Int × Int)) (w : World) (e : Ending) (w' : World) : Prop :=
  e = .returned (.tuple #[]) ∧ ∃ O', Inv (acc ++ ws) O' w' ∧ FrameBut (fun k => O k ∨ k = bm) w w' ∧ (∀ k, O' k → O k ∨ w.heap.size ≤ k) ∧ MapIs w' Try.prog 43 bm ms cornV (inS S)
structure LoopsIn (w : World) (n : Int) (B2 B3 B4 B5 bm ge : Nat) (lbe : Array Value) (Kp : Nat → Prop) : Prop where
  c2 : w.cell? ⟨B2, 0, none⟩ = some (.int .i64 n)
  c3 : w.cell? ⟨B3, 0, none⟩ = some (.func (.func ge) #[] lbe)
  c4 : w.cell? ⟨B4, 0, none⟩ = some (.map (some bm))
  c5 : w.cell? ⟨B5, 0, none⟩ = some (.func (.func 31) #[] #[.pointer (some ⟨B2, 0, none⟩), .pointer (some ⟨B3, 0, none⟩), .pointer (some ⟨B4, 0, none⟩), .pointer (some ⟨B5, 0, none⟩)])
  k2 : Kp B2
  k3 : Kp B3
  k4 : Kp B4
  k5 : Kp B5
set_option maxRecDepth 100000 in
set_option maxHeartbeats 4000000 in
theorem loopsWalk_zero (ge : Nat) (lbe : Array Value) (max : Nat) (good : List Int → Prop) (Inv : List (List Int) → (Nat → Prop) → World → Prop) (C : CB Try.prog ge lbe (fun l => .string (strOfNums l)) good max Inv) (eg : ∀ args w, (callFunc ge args).run Try.prog w = .ok (.enter ge args) w)
    (n : Int) (B2 B3 B4 B5 bm : Nat) (S : List (Int × Int)) (ms : Nat) (word : List Int) (v : Value) (x y : Int) (acc : List (List Int)) (O Kp : Nat → Prop) (w : World)
    (hin : LoopsIn w n B2 B3 B4 B5 bm ge lbe Kp) (hO : ∀ k, O k → ¬ Kp k) (hbm : ¬ Kp bm) (hM : MapIs w Try.prog 43 bm ms cornV (inS S)) (hI : Inv acc O w) (hOb : ¬ O bm) (hw : Kd.R (Kd.int .u8) 5 w 0 Kp v word) (hl : (word.length : Int) = n) (hn : n ≤ 100)
    (hg : x = 0 ∧ y = 0 → good word) (hmax : acc.length < max) :
    Calls Try.prog 31 #[v, .agg #[.int .i64 x, .int .i64 y], .pointer (some ⟨B2, 0, none⟩), .pointer (some ⟨B3, 0, none⟩), .pointer (some ⟨B4, 0, none⟩), .pointer (some ⟨B5, 0, none⟩)] w (LoopsPost acc (walkW 0 S word x y) O Inv bm ms S w) := by
  obtain ⟨A, c, rfl⟩ := Kd.R_slice hw
  obtain ⟨c2, c3, c4, c5, k2, k3, k4, k5⟩ := hin
  have b2 := World.block_lt_of_cell? w _ c2
  have b3 := World.block_lt_of_cell? w _ c3
  have hl0 : n - (word.length : Int) = 0 := by omega
  have hs0 : ∀ W, Below w.heap.size w W → (convert 47 9 (.slice A word.length c)).run Try.prog W = .ok (.string (strOfNums word)) W := fun W hb => own_string Try.underlying47 Try.underlying5 Try.underlying9 (Kd.own_of_R (Kd.R_below hw (by exact hb)))
  by_cases hxy : x = 0 ∧ y = 0
  · obtain ⟨rfl, rfl⟩ := hxy
    have hs1 := hs0 (w.alloc (.cells #[.int .i64 0, .int .i64 0] 43)) (below_alloc (Below.refl _ _) _)
    clear hs0
    go_enter Try.func31, Try.ntmps31
    go_wp2_with ((go_at_fn ge; refine (C.call acc O _ word hmax (hg ⟨rfl, rfl⟩) ?xI).mono ?_; (case xI => exact C.below hI (below_alloc (Below.refl _ _) _)); rintro e w' ⟨rfl, O', hI', hF, hO'⟩))
    refine bodyPost_ret (v := .tuple #[]) (by simp [results, Try.results31, go_sem]) rfl ⟨rfl, O', ?_, ?_, ?_, ?_⟩
    · simpa [walkW] using hI'
    · exact (FrameBut.of_below (below_alloc (Below.refl _ _) _)).trans (hF.mono (fun k hk h => h)) (fun k h => .inl (.inl h))
    · exact fun k hk => (hO' k hk).imp id (fun h => by simp at h; omega)
    · exact hM.move (by rw [hF.block bm (by have := hM.lt; simp; omega) hOb, Below.heap_alloc _ _ _ hM.lt])
  · have hxy2 : (x == 0 && (y == 0)) = false := by rw [Bool.eq_false_iff]; intro h; simp at h; exact hxy h
    have hW : walkW 0 S word x y = [] := by simp [walkW, hxy]
    rw [hW]
    clear hxy hW hs0
    go_enter Try.func31, Try.ntmps31
    go_wp2_with fail
    refine bodyPost_ret (v := .tuple #[]) (by simp [results, Try.results31, go_sem]) rfl ⟨rfl, O, ?_, ?_, ?_, ?_⟩
    · rw [List.append_nil]; exact C.below hI (below_alloc (Below.refl _ _) _)
    · exact FrameBut.of_below (below_alloc (Below.refl _ _) _)
    · exact fun k hk => .inl hk
    · exact hM.alloc _
theorem lit1C (W : World) (d : Int) : Kd.C (Kd.int .u8) (W.alloc (.cells #[.int .u8 d] 5)) (some ⟨W.heap.size, 0, none⟩) 1 [d] :=
  (Kd.R_reads' (Kd.R_of_own (enc := Value.int .u8) (h1 := fun _ => rfl) (ok := fun _ => True) (own_lit W W.heap.size 5 .u8 [d] (Nat.le_refl _) (by simp)) (fun _ _ => trivial))).2.2
theorem flatMap_len {f : Int → List (List Int)} {b : Nat} (h : ∀ d, (f d).length ≤ b) : ∀ l : List Int, (l.flatMap f).length ≤ l.length * b
  | [] => by simp
  | d :: l => by
    have := flatMap_len h l
    have := h d
    simp only [List.flatMap_cons, List.length_append, List.length_cons, Nat.succ_mul]
    omega
theorem pieceW_len {F : List (Int × Int) → List Int → Int → Int → List (List Int)} {b : Nat} (h : ∀ S word x y, (F S word x y).length ≤ b) (m : Nat) (S : List (Int × Int)) (word : List Int) (x y d : Int) : (pieceW F m S word x y d).length ≤ b := by
  unfold pieceW
  split
  · exact h _ _ _ _
  · split
    · simp
    · exact h _ _ _ _
theorem walkW_len : ∀ m S word x y, (walkW m S word x y).length ≤ 4 ^ m
  | 0, S, word, x, y => by unfold walkW; split <;> simp
  | m + 1, S, word, x, y => by
    have := flatMap_len (pieceW_len (walkW_len m) m S word x y) [110, 101, 115, 119]
    unfold walkW
    simp only [List.length_cons, List.length_nil] at this
    rw [Nat.pow_succ]
    omega
def step4 : List Int := [110, 101, 115, 119]
def LoopsMid (acc : List (List Int)) (m : Nat) (word : List Int) (x y : Int) (O : Nat → Prop) (Inv : List (List Int) → (Nat → Prop) → World → Prop) (bm ms : Nat) (S : List (Int × Int)) (W0 : World) (kk : Nat) (wr : World) : Prop :=
  ∃ O', Inv (acc ++ (step4.take kk).flatMap (pieceW (walkW m) m S word x y)) O' wr ∧ FrameBut (fun k => O k ∨ k = bm) W0 wr ∧ (∀ k, O' k → O k ∨ W0.heap.size ≤ k) ∧ MapIs wr Try.prog 43 bm ms cornV (inS S)
theorem LoopsMid.next {acc : List (List Int)} {m : Nat} {word : List Int} {x y : Int} {O O1 O2 : Nat → Prop} {Inv : List (List Int) → (Nat → Prop) → World → Prop} {bm ms : Nat} {S : List (Int × Int)} {W0 wr w' : World} {kk : Nat} {PW T : List (List Int)}
    (hT : (step4.take (kk + 1)).flatMap (pieceW (walkW m) m S word x y) = T ++ PW) (hI : Inv (acc ++ T ++ PW) O2 w') (h2 : FrameBut (fun k => O k ∨ k = bm) W0 wr) (h3 : ∀ k, O1 k → O k ∨ W0.heap.size ≤ k) (hF : FrameBut (fun k => O1 k ∨ k = bm) wr w') (hO2 : ∀ k, O2 k → O1 k ∨ wr.heap.size ≤ k)
    (hM : MapIs w' Try.prog 43 bm ms cornV (inS S)) : LoopsMid acc m word x y O Inv bm ms S W0 (kk + 1) w' := by
  refine ⟨O2, by rw [hT, ← List.append_assoc]; exact hI, h2.trans hF (fun k hk => ?_), fun k hk => ?_, hM⟩
  · rcases hk with hk | hk
    · exact (h3 k hk).imp .inl id
    · exact .inl (.inr hk)
  · rcases hO2 k hk with hk | hk
    · exact h3 k hk
    · exact .inr (Nat.le_trans h2.size hk)
set_option maxRecDepth 100000 in
set_option maxHeartbeats 16000000 in
theorem loopsWalk_succ (ge : Nat) (lbe : Array Value) (max_ : Nat) (good : List Int → Prop) (Inv : List (List Int) → (Nat → Prop) → World → Prop) (C : CB Try.prog ge lbe (fun l => .string (strOfNums l)) good max_ Inv) (eg : ∀ args w, (callFunc ge args).run Try.prog w = .ok (.enter ge args) w)
    (m : Nat) (n : Int) (B2 B3 B4 B5 bm : Nat)
    (ih : ∀ (S : List (Int × Int)) (ms : Nat) (word : List Int) (v : Value) (x y : Int) (acc : List (List Int)) (O Kp : Nat → Prop) (w : World),
      LoopsIn w n B2 B3 B4 B5 bm ge lbe Kp → (∀ k, O k → ¬ Kp k) → ¬ Kp bm → MapIs w Try.prog 43 bm ms cornV (inS S) → Inv acc O w → ¬ O bm → Kd.R (Kd.int .u8) 5 w 0 Kp v word → (∀ k, Kp k → k < w.heap.size) → (0, 0) ∈ S → word ≠ [] → (word.length : Int) + m = n → n ≤ 100 → ms + m ≤ 1000 →
      -1000 + (m : Int) ≤ x → x ≤ 1000 - (m : Int) → -1000 + (m : Int) ≤ y → y ≤ 1000 - (m : Int) → (∀ z ∈ walkW m S word x y, good z) → acc.length + 4 ^ m ≤ max_ →
      Calls Try.prog 31 #[v, .agg #[.int .i64 x, .int .i64 y], .pointer (some ⟨B2, 0, none⟩), .pointer (some ⟨B3, 0, none⟩), .pointer (some ⟨B4, 0, none⟩), .pointer (some ⟨B5, 0, none⟩)] w (LoopsPost acc (walkW m S word x y) O Inv bm ms S w))
    (S : List (Int × Int)) (ms : Nat) (word : List Int) (v : Value) (x y : Int) (acc : List (List Int)) (O Kp : Nat → Prop) (w : World)
    (hin : LoopsIn w n B2 B3 B4 B5 bm ge lbe Kp) (hO : ∀ k, O k → ¬ Kp k) (hbm : ¬ Kp bm) (hM : MapIs w Try.prog 43 bm ms cornV (inS S)) (hI : Inv acc O w) (hOb : ¬ O bm) (hw : Kd.R (Kd.int .u8) 5 w 0 Kp v word) (hKp : ∀ k, Kp k → k < w.heap.size) (h00 : (0, 0) ∈ S) (hne : word ≠ []) (hl : (word.length : Int) + (m + 1 : Nat) = n) (hn : n ≤ 100) (hms : ms + (m + 1) ≤ 1000)
    (hx1 : -1000 + ((m + 1 : Nat) : Int) ≤ x) (hx2 : x ≤ 1000 - ((m + 1 : Nat) : Int)) (hy1 : -1000 + ((m + 1 : Nat) : Int) ≤ y) (hy2 : y ≤ 1000 - ((m + 1 : Nat) : Int)) (hg : ∀ z ∈ walkW (m + 1) S word x y, good z) (hmax : acc.length + 4 ^ (m + 1) ≤ max_) :
    Calls Try.prog 31 #[v, .agg #[.int .i64 x, .int .i64 y], .pointer (some ⟨B2, 0, none⟩), .pointer (some ⟨B3, 0, none⟩), .pointer (some ⟨B4, 0, none⟩), .pointer (some ⟨B5, 0, none⟩)] w (LoopsPost acc (walkW (m + 1) S word x y) O Inv bm ms S w) := by
  obtain ⟨A, c, rfl⟩ := Kd.R_slice hw
  have HIN := Aside0.mk hin
  obtain ⟨c2, c3, c4, c5, k2, k3, k4, k5⟩ := hin
  have b2 := World.block_lt_of_cell? w _ c2
  have b3 := World.block_lt_of_cell? w _ c3
  have b4 := World.block_lt_of_cell? w _ c4
  have b5 := World.block_lt_of_cell? w _ c5
  have hl0 : n - (word.length : Int) = (m : Int) + 1 := by omega
  have hl1 : (((m : Int) + 1) == 0) = false := by rw [beq_eq_false_iff_ne]; omega
  have hconv : (convert 47 47 (.slice (some ⟨w.heap.size + 1, 0, none⟩) 4 4)).run Try.prog ((w.alloc (.cells #[.int .i64 x, .int .i64 y] 43)).alloc (.cells #[.int .u8 110, .int .u8 101, .int .u8 115, .int .u8 119] 5)) =
      .ok (.slice (some ⟨w.heap.size + 1, 0, none⟩) 4 4) ((w.alloc (.cells #[.int .i64 x, .int .i64 y] 43)).alloc (.cells #[.int .u8 110, .int .u8 101, .int .u8 115, .int .u8 119] 5 (4, 5))) := by
    have := Go.Lib.run_convert_bytes_const (P := Try.prog) (w.alloc (.cells #[.int .i64 x, .int .i64 y] 43)) 47 5 #[.int .u8 110, .int .u8 101, .int .u8 115, .int .u8 119] 4 4 Try.underlying47 Try.underlying5
    simpa using this
  have H0 : Aside0 (LoopsMid acc m word x y O Inv bm ms S ((w.alloc (.cells #[.int .i64 x, .int .i64 y] 43)).alloc (.cells #[.int .u8 110, .int .u8 101, .int .u8 115, .int .u8 119] 5 (4, 5))) 0 ((w.alloc (.cells #[.int .i64 x, .int .i64 y] 43)).alloc (.cells #[.int .u8 110, .int .u8 101, .int .u8 115, .int .u8 119] 5 (4, 5)))) :=
    ⟨O, by simpa using C.below hI (below_alloc (below_alloc (Below.refl _ _) _) _), FrameBut.refl _ _, fun k hk => .inl hk, (hM.alloc _).alloc _⟩
  have hB0 := Aside0.mk (below_alloc (below_alloc (Below.refl w.heap.size w) (.cells #[.int .i64 x, .int .i64 y] 43)) (.cells #[.int .u8 110, .int .u8 101, .int .u8 115, .int .u8 119] 5 (4, 5)))
  have HM := Aside0.mk hM
  have HI := Aside0.mk hI
  have HW := Aside0.mk hw
  have HL := Aside0.mk hl
  have HG := Aside0.mk hg
  have HO := Aside0.mk hO
  have IH := Aside0.mk ih
  clear hM hI hw hl hg hO ih
  go_enter Try.func31, Try.ntmps31
  go_wp2_with fail
  go_loopg [30] 4 (fun gg s30 wr => ∃ kk : Nat, kk ≤ 4 ∧ 4 - kk ≤ gg ∧ s30 = .int .i64 kk ∧ Aside0 (LoopsMid acc m word x y O Inv bm ms S ((w.alloc (.cells #[.int .i64 x, .int .i64 y] 43)).alloc (.cells #[.int .u8 110, .int .u8 101, .int .u8 115, .int .u8 119] 5 (4, 5))) kk wr))
  case atStart => exact ⟨0, by omega, by omega, rfl, H0⟩
  case round =>
    clear H0 hconv
    obtain ⟨kk, hkk, hgg, rfl, HMid⟩ := hrel
    by_cases hlt : kk < 4
    · have hltz : (kk : Int) < 4 := by omega
      have hk0 : (0 : Int) ≤ (kk : Int) := by omega
      obtain ⟨d, hd⟩ : ∃ d, step4[kk]? = some d := ⟨step4[kk]'(by simpa [step4] using hlt), List.getElem?_eq_getElem _⟩
      have hd4 : d = 110 ∨ d = 101 ∨ d = 115 ∨ d = 119 := by
        have : d ∈ step4 := List.mem_of_getElem? hd
        simpa [step4] using this
      have hT : (step4.take (kk + 1)).flatMap (pieceW (walkW m) m S word x y) = (step4.take kk).flatMap (pieceW (walkW m) m S word x y) ++ pieceW (walkW m) m S word x y d := by
        rw [List.take_add_one, hd]
        simp
      have hpg : ∀ z ∈ pieceW (walkW m) m S word x y d, good z := fun z hz => HG.out z (by
        show z ∈ step4.flatMap _
        exact List.mem_flatMap.2 ⟨d, List.mem_of_getElem? hd, hz⟩)
      have hN : impl_Corner_next.f x y d = some (nx4 x d, ny4 y d) := by
        rcases hd4 with rfl | rfl | rfl | rfl <;> simp [impl_Corner_next.f, nx4, ny4, wrap64] <;> omega
      have hnx1 : -1000 + (m : Int) ≤ nx4 x d := by rcases hd4 with rfl | rfl | rfl | rfl <;> simp [nx4] <;> omega
      have hnx2 : nx4 x d ≤ 1000 - (m : Int) := by rcases hd4 with rfl | rfl | rfl | rfl <;> simp [nx4] <;> omega
      have hny1 : -1000 + (m : Int) ≤ ny4 y d := by rcases hd4 with rfl | rfl | rfl | rfl <;> simp [ny4] <;> omega
      have hny2 : ny4 y d ≤ 1000 - (m : Int) := by rcases hd4 with rfl | rfl | rfl | rfl <;> simp [ny4] <;> omega
      have hdu : 0 ≤ d ∧ d ≤ 255 := by rcases hd4 with rfl | rfl | rfl | rfl <;> omega
      obtain ⟨O', h1, h2, h3, h4⟩ := HMid.out
      clear HMid
      have nO : ∀ b, Kp b → ¬ (O b ∨ b = bm) := fun b hk h => h.elim (fun h => HO.out b h hk) (fun h => hbm (h ▸ hk))
      have hwlt := hB0.out
      have z2 := h2.cell (pw_cell_below hB0.out c2) (nO _ k2)
      have z3 := h2.cell (pw_cell_below hB0.out c3) (nO _ k3)
      have z4 := h2.cell (pw_cell_below hB0.out c4) (nO _ k4)
      have z5 := h2.cell (pw_cell_below hB0.out c5) (nO _ k5)
      have nN : ∀ b, w.heap.size ≤ b → ¬ (O b ∨ b = bm) := fun b hk h => h.elim (fun h => absurd (C.lt acc O w HI.out b h) (by omega)) (fun h => absurd HM.out.lt (by omega))
      have zx := h2.cell (b := w.heap.size) (i := 0) (v := .int .i64 x) (by ((repeat (first | rw [World.cell?_alloc_at _ _ _ _ (by simp; done)] | rw [World.cell?_alloc_past _ _ _ (by simp <;> omega)])); rfl)) (nN _ (Nat.le_refl _))
      have zy := h2.cell (b := w.heap.size) (i := 1) (v := .int .i64 y) (by ((repeat (first | rw [World.cell?_alloc_at _ _ _ _ (by simp; done)] | rw [World.cell?_alloc_past _ _ _ (by simp <;> omega)])); rfl)) (nN _ (Nat.le_refl _))
      have zd := h2.cell (b := w.heap.size + 1) (i := kk) (v := .int .u8 d) (by
        have hh : ((w.alloc (.cells #[.int .i64 x, .int .i64 y] 43)).alloc (.cells #[.int .u8 110, .int .u8 101, .int .u8 115, .int .u8 119] 5 (4, 5))).heap[w.heap.size + 1]? = some (.cells #[.int .u8 110, .int .u8 101, .int .u8 115, .int .u8 119] 5 (4, 5)) := by
          have := heap_alloc_new (w.alloc (.cells #[.int .i64 x, .int .i64 y] 43)) (.cells #[.int .u8 110, .int .u8 101, .int .u8 115, .int .u8 119] 5 (4, 5))
          simpa using this
        rw [cell_of_row _ (w.heap.size + 1) kk _ _ (4, 5) hh]
        have hq : kk = 0 ∨ kk = 1 ∨ kk = 2 ∨ kk = 3 := by omega
        rcases hq with rfl | rfl | rfl | rfl <;> simp [step4] at hd <;> subst hd <;> rfl) (nN _ (by omega))
      have hN' := Aside0.mk hN
      have HT := Aside0.mk hT
      have HPG := Aside0.mk hpg
      have H1 := Aside0.mk h1
      have H2 := Aside0.mk h2
      have H3 := Aside0.mk h3
      have H4 := Aside0.mk h4
      have hpi : Aside0 (pieceW (walkW m) m S word x y d = if nx4 x d = 0 ∧ ny4 y d = 0 ∧ m = 0 then walkW m S (word ++ [d]) (nx4 x d) (ny4 y d) else if (nx4 x d, ny4 y d) ∈ S ∨ ny4 y d < 0 ∨ (ny4 y d = 0 ∧ nx4 x d < 0) ∨ (m : Int) + 1 ≤ max (nx4 x d) (-(nx4 x d)) + ny4 y d then [] else walkW m ((nx4 x d, ny4 y d) :: S) (word ++ [d]) (nx4 x d) (ny4 y d)) := ⟨rfl⟩
      clear hN hT hpg h1 h2 h3 h4 hd hd4
      generalize pieceW (walkW m) m S word x y d = PW at HT HPG hpi
      generalize nx4 x d = nx at hN' hnx1 hnx2 hpi
      generalize ny4 y d = ny at hN' hny1 hny2 hpi
      have key := Aside0.mk (cornKey nx ny (i64_wf nx (by omega) (by omega)) (i64_wf ny (by omega) (by omega)))
      by_cases hhome : nx = 0 ∧ ny = 0 ∧ m = 0
      · obtain ⟨rfl, rfl, rfl⟩ := hhome
        have hP : Aside0 (PW = walkW 0 S (word ++ [d]) 0 0) := ⟨by rw [hpi.out, if_pos ⟨rfl, rfl, rfl⟩]⟩
        have HKP := Aside0.mk hKp
        have H00 := Aside0.mk h00
        have hl0' : n - (word.length : Int) = 1 := by have := HL.out; omega
        clear hpi hKp hl0 hl1 h00
        have h00 := H00.out
        go_wp2_with ((go_at_call 32; (with_reducible refine (impl_Corner_next.calls x y d 0 0 _ hN'.out).mono ?_); rintro e w3 ⟨rfl, hbw⟩; have y4 := pw_cell_below hbw z4; have b4w := World.block_lt_of_cell? w3 _ y4))
        have hlk : True := trivial
        generalize hw5_ : w3.alloc (.cells #[.int .i64 0, .int .i64 0] 43) = w5
        have hw5 := hw5_.symm
        have hM5 : Aside0 (MapIs w5 Try.prog 43 bm ms cornV (inS S)) := ⟨by rw [hw5]; exact (H4.out.below hbw).alloc _⟩
        clear hw5_
        have b5 := World.block_lt_of_cell? w _ c5
        have F4 : Below wr.heap.size wr (w3.alloc (.cells #[.int .i64 0, .int .i64 0] 43)) := below_alloc hbw _
        have hbm4 := H4.out.lt
        have F5 : FrameBut (fun k => k = bm) (w3.alloc (.cells #[.int .i64 0, .int .i64 0] 43)) w5 := by rw [hw5]; exact FrameBut.refl _ _
        have G5 : FrameBut (fun k => k = bm) wr w5 := (FrameBut.of_below F4).trans F5 (fun k h => .inl h)
        have hs3 := hbw.size
        have HW5e := Aside0.mk hw5
        clear hw5
        have hs5 : w3.heap.size + 1 ≤ w5.heap.size := by have := F5.size; simp at this; omega
        have q2 := G5.cell z2 (fun h => nO _ k2 (.inr h))
        have q3 := G5.cell z3 (fun h => nO _ k3 (.inr h))
        have q4 := G5.cell z4 (fun h => nO _ k4 (.inr h))
        have q5 := G5.cell z5 (fun h => nO _ k5 (.inr h))
        have qx := F5.cell (b := w3.heap.size) (i := 0) (v := .int .i64 0) (World.cell?_alloc_at _ _ _ _ rfl) (fun h => by omega)
        have qy := F5.cell (b := w3.heap.size) (i := 1) (v := .int .i64 0) (World.cell?_alloc_at _ _ _ _ rfl) (fun h => by omega)
        have HW5 : Aside0 (Kd.R (Kd.int .u8) 5 w5 0 Kp (.slice A word.length c) word) := ⟨Kd.R_move HW.out (fun k hk => by
          have h1 := hB0.out.block k (HKP.out k hk)
          have h2 := H2.out.block k (Nat.lt_of_lt_of_le (HKP.out k hk) hB0.out.size) (nO k hk)
          have h3 := G5.block k (Nat.lt_of_lt_of_le (Nat.lt_of_lt_of_le (HKP.out k hk) hB0.out.size) H2.out.size) (fun h => nO k hk (.inr h))
          rw [h3, h2, h1])⟩
        obtain ⟨ga, eA, -⟩ := Kd.at_int (Kd.R_reads' HW5.out).2.2 0 (by omega) (by have := List.length_pos_iff.2 hne; omega)
        cases eA
        have hWL : word.length ≤ 1000000 := by have := HL.out; omega
        have HCall : ∀ Wc v1, Aside0 (Below w5.heap.size w5 Wc) → Kd.R (Kd.int .u8) 5 Wc w5.heap.size (fun _ => True) v1 (word ++ [d]) → Calls Try.prog 31 #[v1, .agg #[.int .i64 0, .int .i64 0], .pointer (some ⟨B2, 0, none⟩), .pointer (some ⟨B3, 0, none⟩), .pointer (some ⟨B4, 0, none⟩), .pointer (some ⟨B5, 0, none⟩)] Wc (LoopsPost (acc ++ (step4.take kk).flatMap (pieceW (walkW 0) 0 S word x y)) (walkW 0 (S) (word ++ [d]) 0 0) O' Inv bm ms (S) Wc) := fun Wc v1 hb hr => by
          have hbo := hb.out
          refine IH.out (S) ms (word ++ [d]) v1 0 0 _ O' (fun k => Kp k ∨ k = w3.heap.size ∨ (w5.heap.size ≤ k ∧ k < Wc.heap.size)) Wc ⟨pw_cell_below hbo q2, pw_cell_below hbo q3, pw_cell_below hbo q4, pw_cell_below hbo q5, .inl k2, .inl k3, .inl k4, .inl k5⟩ (fun k hk h => ?_) (fun h => ?_) ((hM5.out).below hbo) ?_ (fun h => ?_) ?_ (fun k hk => ?_) h00 (by simp) ?_ hn (by omega) hnx1 hnx2 hny1 hny2 ?_ ?_
          · have hlt := C.lt _ _ _ H1.out k hk
            rcases h with h | h | h
            · rcases H3.out k hk with h4 | h4
              · exact HO.out k h4 h
              · exact absurd (HKP.out k h) (by have := hB0.out.size; omega)
            · omega
            · omega
          · rcases h with h | h | h
            · exact hbm h
            · omega
            · omega
          · exact C.below (C.frame H1.out G5 (fun k hk h => by subst h; exact (H3.out k hk).elim hOb (fun h => absurd HM.out.lt (by have := hB0.out.size; omega)))) hbo
          · exact (H3.out bm h).elim hOb (fun h => absurd HM.out.lt (by have := hB0.out.size; omega))
          · exact Kd.R_lower (Kd.R_mono (Kd.R_bound hr) (fun k hk => .inr (.inr ⟨hk.2.1, hk.2.2.1⟩))) (Nat.zero_le _)
          · have := hbo.size
            rcases hk with h | h | h
            · have := HKP.out k h; have := hB0.out.size; have := H2.out.size; omega
            · omega
            · exact h.2
          · have := HL.out; simp; omega
          · intro z hz
            exact HPG.out z (by rw [hP.out]; exact hz)
          · have h1 := flatMap_len (pieceW_len (walkW_len 0) 0 S word x y) (step4.take kk)
            have h2 : (step4.take kk).length ≤ 3 := by rw [List.length_take]; omega
            have h3 : (step4.take kk).length * 4 ^ 0 ≤ 3 * 4 ^ 0 := Nat.mul_le_mul_right _ h2
            rw [Nat.pow_succ] at hmax
            simp only [List.length_append]
            omega
        have HC5 := Aside0.mk (Kd.R_reads' HW5.out).2.2
        have HC6 := Aside0.mk HCall
        clear HCall
        have hi5 : (Try.prog.info? 5).map (fun i => (i.zero, i.size, i.bytes)) = some (some (.int .u8 0), 1, 1) := by kernel_rfl
        have nb5 : ∀ O'' : Nat → Prop, True := fun _ => trivial
        have e9 : ∀ (O'' : Nat → Prop) (b : Nat), (O'' = O' → b < w5.heap.size → ¬ (O' b ∨ b = bm) → True) := fun _ _ _ _ _ => trivial
        have n5 : ¬ (O' B5 ∨ B5 = bm) := fun h => h.elim (fun h => (H3.out _ h).elim (fun h => HO.out _ h k5) (fun h => absurd b5 (by have := hB0.out.size; omega))) (fun h => hbm (h ▸ k5))
        have n4 : ¬ (O' B4 ∨ B4 = bm) := fun h => h.elim (fun h => (H3.out _ h).elim (fun h => HO.out _ h k4) (fun h => absurd b4 (by have := hB0.out.size; omega))) (fun h => hbm (h ▸ k4))
        have nx5 : ¬ (O' w3.heap.size ∨ w3.heap.size = bm) := fun h => h.elim (fun h => absurd (C.lt _ _ _ H1.out _ h) (by omega)) (fun h => by omega)
        clear nb5 e9
        generalize hFV : (Value.func (Fn.func 31) #[] #[.pointer (some ⟨B2, 0, none⟩), .pointer (some ⟨B3, 0, none⟩), .pointer (some ⟨B4, 0, none⟩), .pointer (some ⟨B5, 0, none⟩)]) = FV at q5
        subst hFV
        go_region_held3 (fun w' => w'.cell? ⟨B5, 0, none⟩ = some (.func (.func 31) #[] #[.pointer (some ⟨B2, 0, none⟩), .pointer (some ⟨B3, 0, none⟩), .pointer (some ⟨B4, 0, none⟩), .pointer (some ⟨B5, 0, none⟩)]) ∧ w'.cell? ⟨w3.heap.size, 0, none⟩ = some (.int .i64 0) ∧ w'.cell? ⟨w3.heap.size, 1, none⟩ = some (.int .i64 0))
          (first
            | exact ⟨q5, qx, qy⟩
            | exact ⟨HF9.cell (pw_cell_below hbA q5) n5, HF9.cell (pw_cell_below hbA qx) nx5, HF9.cell (pw_cell_below hbA qy) nx5⟩
            | exact ⟨pw_cell_below hbA q5, pw_cell_below hbA qx, pw_cell_below hbA qy⟩
            | (go_split_ands; exact ⟨pw_cell_below hbx (by assumption), pw_cell_below hbx (by assumption), pw_cell_below hbx (by assumption)⟩)
            | (go_split_ands; exact ⟨pw_cell_below (below_alloc (Below.refl _ _) _) (by assumption), pw_cell_below (below_alloc (Below.refl _ _) _) (by assumption), pw_cell_below (below_alloc (Below.refl _ _) _) (by assumption)⟩))
          (first
            | (go_at_call 33; refine (cloneB_any ga c word _ (by first | exact Kd.C_drew HC5.out | exact Kd.C_drew (Kd.C_alloc HC5.out _)) hWL).mono ?_; rintro e wx ⟨vx, rfl, hox, hbx⟩)
            | (refine Kd.R_append_rows_step (Kd.int .u8) (Rr := (Kd.int .u8).K w5) (w0 := w5) w5.heap.size (by rfl) _ _ 47 5 (.int .u8 0) 1 rfl Try.underlying47 hi5 rfl (by decide) (by decide) vx word [d] _ _ _ (fun _ => True) (fun _ => False) rfl rfl ?xO ?xR (fun _ _ h => h) (fun _ h => h.elim) (fun _ _ => trivial) ?xB ?xS ?xL ?_; (case xO => first | exact Kd.R_lower (Kd.R_alloc hox _) (by first | exact Nat.le_refl _ | simp) | exact Kd.R_lower hox (by first | exact Nat.le_refl _ | simp)); (case xR => first | exact lit1C _ d | exact Kd.C_below (Kd.C_drew (lit1C _ d)) hbx); (case xB => first | exact below_alloc (below_step (below_drew (Below.refl _ _)) hbx) _ | exact below_step (below_drew (below_alloc (Below.refl _ _) _)) hbx); (case xS => have hz_ := hbx.size; simp at hz_; simp; omega); (case xL => omega); intro v1 w1 hr1_ hbA hg1_ ha1_; have HRA := Aside0.mk hr1_; clear hr1_ hg1_ ha1_)
            | (go_at_call 31; refine (HC6.out _ _ ⟨hbA⟩ HRA.out).mono ?_; rintro e w9 ⟨rfl, O9, hI9, HF9, hO9, hM9⟩))
        all_goals
          have hbmO : ¬ O' bm := fun h => (H3.out bm h).elim hOb (fun h => absurd HM.out.lt (by have := hB0.out.size; omega))
          have hbAs := hbA.size
          have I10 := Aside0.mk hI9
          have G10 := Aside0.mk (((G5.mono (O1 := fun k => O' k ∨ k = bm) (fun k _ h => .inr h)).below (hbA.mono (Nat.le_refl _))).trans HF9 (fun k h => .inl h))
          have O10 : Aside0 (∀ k, O9 k → O' k ∨ wr.heap.size ≤ k) := ⟨fun k hk => (hO9 k hk).imp id (fun h => by have := G5.size; omega)⟩
          have M10 := Aside0.mk hM9
          clear hI9 HF9 hO9 hM9 hlk
          go_wp2
          go_roundg (4 - (kk + 1))
          case measure => omega
          case rel => exact ⟨kk + 1, by omega, by omega, by go_num, ⟨LoopsMid.next HT.out (by rw [hP.out]; exact I10.out) H2.out H3.out G10.out O10.out M10.out⟩⟩
      · by_cases hbad : (nx, ny) ∈ S ∨ ny < 0 ∨ (ny = 0 ∧ nx < 0) ∨ (m : Int) + 1 ≤ max nx (-nx) + ny
        · have hP : Aside0 (PW = []) := ⟨by rw [hpi.out, if_neg hhome, if_pos hbad]⟩
          obtain ⟨mx, hmx⟩ : ∃ mx, (if nx < -nx then -nx else nx) = mx := ⟨_, rfl⟩
          have hbc : (decide ((nx, ny) ∈ S) = true ∧ ((nx == 0 && (ny == 0)) = false ∨ ((nx = 0 ∧ ny = 0) ∧ ¬ m = 0))) ∨
              ((nx == 0 && (ny == 0)) = false ∧ decide ((nx, ny) ∈ S) = false ∧ (ny < 0 ∨ (¬ ny < 0 ∧ (((ny == 0) = true ∧ (nx == 0) = false ∧ nx < 0) ∨
                (((ny == 0) = false ∨ ((ny == 0) = true ∧ (nx == 0) = false ∧ ¬ nx < 0)) ∧ (m : Int) + 1 ≤ mx + ny))))) := by
            by_cases ha : (nx, ny) ∈ S
            · refine .inl ⟨decide_eq_true ha, ?_⟩
              rcases Bool.eq_false_or_eq_true (nx == 0 && (ny == 0)) with h | h
              · simp at h
                exact .inr ⟨h, fun hm => hhome ⟨h.1, h.2, hm⟩⟩
              · exact .inl h
            · have h0 : (nx == 0 && (ny == 0)) = false := by
                rw [Bool.eq_false_iff]; intro h; simp at h; obtain ⟨rfl, rfl⟩ := h; exact ha h00
              refine .inr ⟨h0, decide_eq_false ha, ?_⟩
              by_cases hb : ny < 0
              · exact .inl hb
              · refine .inr ⟨hb, ?_⟩
                by_cases hc : ny = 0 ∧ nx < 0
                · exact .inl ⟨by simp [hc.1], by rw [beq_eq_false_iff_ne]; omega, hc.2⟩
                · have hd : (m : Int) + 1 ≤ max nx (-nx) + ny := by rcases hbad with h | h | h | h <;> first | exact absurd h ha | exact absurd h hb | exact absurd h hc | exact h
                  refine .inr ⟨?_, ?_⟩
                  · by_cases he : ny = 0
                    · exact .inr ⟨by simp [he], by rw [beq_eq_false_iff_ne]; intro hz; rw [hz, he] at h0; simp at h0, fun h => hc ⟨he, h⟩⟩
                    · exact .inl (by simp [he])
                  · subst hmx; split <;> omega
          clear hhome hbad hpi h00
          rcases hbc with ⟨hS, hh1 | ⟨⟨rfl, rfl⟩, hh2⟩⟩ | ⟨hh1, hS, hb1 | ⟨hb1, ⟨hb2, hb3, hb4⟩ | ⟨hb2 | ⟨hb2, hb3, hb5⟩, hb6⟩⟩⟩
          rotate_left
          · clear hmx
            have hm2 : (((m : Int) + 1) == 1) = false := by rw [beq_eq_false_iff_ne]; omega
            go_wp2_with ((go_at_call 32; (with_reducible refine (impl_Corner_next.calls x y d 0 0 _ hN'.out).mono ?_); rintro e w3 ⟨rfl, hb3⟩; have hlk := lookS ((H4.out.below hb3).alloc (.cells #[.int .i64 0, .int .i64 0] 43)) key.out _ hS; have y4 := pw_cell_below hb3 z4; have b4w := World.block_lt_of_cell? w3 _ y4))
            all_goals first
              | (go_roundg (4 - (kk + 1))
                 case measure => omega
                 case rel => exact ⟨kk + 1, by omega, by omega, by go_num, ⟨LoopsMid.next HT.out (by rw [hP.out, List.append_nil]; exact C.below H1.out (below_alloc hb3 _)) H2.out H3.out (FrameBut.of_below (below_alloc hb3 _)) (fun k hk => .inl hk) ((H4.out.below hb3).alloc _)⟩⟩)
              | (exfalso; rename_i hp hq; simp only [Bool.not_eq_eq_eq_not, Bool.not_false, beq_iff_eq] at hq; exact hp hq)
              | (exfalso; rename_i hq; simp at hq; omega)
              | (exfalso; omega)
          all_goals
            go_wp2_with ((go_at_call 32; (with_reducible refine (impl_Corner_next.calls x y d nx ny _ hN'.out).mono ?_); rintro e w3 ⟨rfl, hbw⟩; have hlk := lookS ((H4.out.below hbw).alloc (.cells #[.int .i64 nx, .int .i64 ny] 43)) key.out _ hS; have y4 := pw_cell_below hbw z4; have b4w := World.block_lt_of_cell? w3 _ y4))
            all_goals first
              | (go_roundg (4 - (kk + 1))
                 case measure => omega
                 case rel => exact ⟨kk + 1, by omega, by omega, by go_num, ⟨LoopsMid.next HT.out (by rw [hP.out, List.append_nil]; exact C.below H1.out (below_alloc hbw _)) H2.out H3.out (FrameBut.of_below (below_alloc hbw _)) (fun k hk => .inl hk) ((H4.out.below hbw).alloc _)⟩⟩)
              | (exfalso; rename_i hq; simp at hq; omega)
              | (exfalso; omega)
        · have hS : decide ((nx, ny) ∈ S) = false := decide_eq_false (fun h => hbad (.inl h))
          have hSn : (nx, ny) ∉ S := fun h => hbad (.inl h)
          have hh1 : (nx == 0 && (ny == 0)) = false := by
            rw [Bool.eq_false_iff]; intro h; simp at h; obtain ⟨rfl, rfl⟩ := h; exact hSn h00
          have hb1 : ¬ ny < 0 := fun h => hbad (.inr (.inl h))
          have hbc : ((ny == 0) = false ∨ ((ny == 0) = true ∧ (nx == 0) = false ∧ ¬ nx < 0)) := by
            by_cases he : ny = 0
            · exact .inr ⟨by simp [he], by rw [beq_eq_false_iff_ne]; intro hz; rw [hz, he] at hSn; exact hSn h00, fun h => hbad (.inr (.inr (.inl ⟨he, h⟩)))⟩
            · exact .inl (by simp [he])
          obtain ⟨mx, hmx⟩ : ∃ mx, (if nx < -nx then -nx else nx) = mx := ⟨_, rfl⟩
          have hb5 : ¬ (m : Int) + 1 ≤ mx + ny := fun h => hbad (.inr (.inr (.inr (by subst hmx; split at h <;> omega))))
          have hP : Aside0 (PW = walkW m ((nx, ny) :: S) (word ++ [d]) nx ny) := ⟨by rw [hpi.out, if_neg hhome, if_neg hbad]⟩
          have HSN := Aside0.mk hSn
          have HKP := Aside0.mk hKp
          have h00' : Aside0 ((0, 0) ∈ (nx, ny) :: S) := ⟨List.mem_cons_of_mem _ h00⟩
          clear hhome hbad hpi h00 hSn hKp
          rcases hbc with hb2 | ⟨hb2, hb3, hb4⟩
          all_goals
            go_wp2_with ((go_at_call 32; (with_reducible refine (impl_Corner_next.calls x y d nx ny _ hN'.out).mono ?_); rintro e w3 ⟨rfl, hbw⟩; have hlk := lookS ((H4.out.below hbw).alloc (.cells #[.int .i64 nx, .int .i64 ny] 43)) key.out _ hS; have y4 := pw_cell_below hbw z4; have b4w := World.block_lt_of_cell? w3 _ y4; obtain ⟨w5, hst, hM5, ht5⟩ := storeS ((H4.out.below hbw).alloc (.cells #[.int .i64 nx, .int .i64 ny] 43)) key.out HSN.out (by omega)))
            have b5 := World.block_lt_of_cell? w _ c5
            have F4 : Below wr.heap.size wr (w3.alloc (.cells #[.int .i64 nx, .int .i64 ny] 43)) := below_alloc hbw _
            have hbm4 := H4.out.lt
            have F5 : FrameBut (fun k => k = bm) (w3.alloc (.cells #[.int .i64 nx, .int .i64 ny] 43)) w5 := (FrameBut.refl _ _).turned ht5 (.inl rfl)
            have G5 : FrameBut (fun k => k = bm) wr w5 := (FrameBut.of_below F4).trans F5 (fun k h => .inl h)
            have hs3 := hbw.size
            have hs5 : w3.heap.size + 1 ≤ w5.heap.size := by have := F5.size; simp at this; omega
            have q2 := G5.cell z2 (fun h => nO _ k2 (.inr h))
            have q3 := G5.cell z3 (fun h => nO _ k3 (.inr h))
            have q4 := G5.cell z4 (fun h => nO _ k4 (.inr h))
            have q5 := G5.cell z5 (fun h => nO _ k5 (.inr h))
            have qx := F5.cell (b := w3.heap.size) (i := 0) (v := .int .i64 nx) (World.cell?_alloc_at _ _ _ _ rfl) (fun h => by omega)
            have qy := F5.cell (b := w3.heap.size) (i := 1) (v := .int .i64 ny) (World.cell?_alloc_at _ _ _ _ rfl) (fun h => by omega)
            have HW5 : Aside0 (Kd.R (Kd.int .u8) 5 w5 0 Kp (.slice A word.length c) word) := ⟨Kd.R_move HW.out (fun k hk => by
              have h1 := hB0.out.block k (HKP.out k hk)
              have h2 := H2.out.block k (Nat.lt_of_lt_of_le (HKP.out k hk) hB0.out.size) (nO k hk)
              have h3 := G5.block k (Nat.lt_of_lt_of_le (Nat.lt_of_lt_of_le (HKP.out k hk) hB0.out.size) H2.out.size) (fun h => nO k hk (.inr h))
              rw [h3, h2, h1])⟩
            obtain ⟨ga, eA, -⟩ := Kd.at_int (Kd.R_reads' HW5.out).2.2 0 (by omega) (by have := List.length_pos_iff.2 hne; omega)
            cases eA
            have hWL : word.length ≤ 1000000 := by have := HL.out; omega
            have HCall : ∀ Wc v1, Aside0 (Below w5.heap.size w5 Wc) → Kd.R (Kd.int .u8) 5 Wc w5.heap.size (fun _ => True) v1 (word ++ [d]) → Calls Try.prog 31 #[v1, .agg #[.int .i64 nx, .int .i64 ny], .pointer (some ⟨B2, 0, none⟩), .pointer (some ⟨B3, 0, none⟩), .pointer (some ⟨B4, 0, none⟩), .pointer (some ⟨B5, 0, none⟩)] Wc (LoopsPost (acc ++ (step4.take kk).flatMap (pieceW (walkW m) m S word x y)) (walkW m ((nx, ny) :: S) (word ++ [d]) nx ny) O' Inv bm (ms + 1) ((nx, ny) :: S) Wc) := fun Wc v1 hb hr => by
              have hbo := hb.out
              refine IH.out ((nx, ny) :: S) (ms + 1) (word ++ [d]) v1 nx ny _ O' (fun k => Kp k ∨ k = w3.heap.size ∨ (w5.heap.size ≤ k ∧ k < Wc.heap.size)) Wc ⟨pw_cell_below hbo q2, pw_cell_below hbo q3, pw_cell_below hbo q4, pw_cell_below hbo q5, .inl k2, .inl k3, .inl k4, .inl k5⟩ (fun k hk h => ?_) (fun h => ?_) (hM5.below hbo) ?_ (fun h => ?_) ?_ (fun k hk => ?_) h00'.out (by simp) ?_ hn (by omega) hnx1 hnx2 hny1 hny2 ?_ ?_
              · have hlt := C.lt _ _ _ H1.out k hk
                rcases h with h | h | h
                · rcases H3.out k hk with h4 | h4
                  · exact HO.out k h4 h
                  · exact absurd (HKP.out k h) (by have := hB0.out.size; omega)
                · omega
                · omega
              · rcases h with h | h | h
                · exact hbm h
                · omega
                · omega
              · exact C.below (C.frame H1.out G5 (fun k hk h => by subst h; exact (H3.out k hk).elim hOb (fun h => absurd HM.out.lt (by have := hB0.out.size; omega)))) hbo
              · exact (H3.out bm h).elim hOb (fun h => absurd HM.out.lt (by have := hB0.out.size; omega))
              · exact Kd.R_lower (Kd.R_mono (Kd.R_bound hr) (fun k hk => .inr (.inr ⟨hk.2.1, hk.2.2.1⟩))) (Nat.zero_le _)
              · have := hbo.size
                rcases hk with h | h | h
                · have := HKP.out k h; have := hB0.out.size; have := H2.out.size; omega
                · omega
                · exact h.2
              · have := HL.out; simp; omega
              · intro z hz
                exact HPG.out z (by rw [hP.out]; exact hz)
              · have h1 := flatMap_len (pieceW_len (walkW_len m) m S word x y) (step4.take kk)
                have h2 : (step4.take kk).length ≤ 3 := by rw [List.length_take]; omega
                have h3 : (step4.take kk).length * 4 ^ m ≤ 3 * 4 ^ m := Nat.mul_le_mul_right _ h2
                rw [Nat.pow_succ] at hmax
                simp only [List.length_append]
                omega
            have HC5 := Aside0.mk (Kd.R_reads' HW5.out).2.2
            have HC6 := Aside0.mk HCall
            clear HCall
            have hi5 : (Try.prog.info? 5).map (fun i => (i.zero, i.size, i.bytes)) = some (some (.int .u8 0), 1, 1) := by kernel_rfl
            have nb5 : ∀ O'' : Nat → Prop, True := fun _ => trivial
            have e9 : ∀ (O'' : Nat → Prop) (b : Nat), (O'' = O' → b < w5.heap.size → ¬ (O' b ∨ b = bm) → True) := fun _ _ _ _ _ => trivial
            have n5 : ¬ (O' B5 ∨ B5 = bm) := fun h => h.elim (fun h => (H3.out _ h).elim (fun h => HO.out _ h k5) (fun h => absurd b5 (by have := hB0.out.size; omega))) (fun h => hbm (h ▸ k5))
            have n4 : ¬ (O' B4 ∨ B4 = bm) := fun h => h.elim (fun h => (H3.out _ h).elim (fun h => HO.out _ h k4) (fun h => absurd b4 (by have := hB0.out.size; omega))) (fun h => hbm (h ▸ k4))
            have nx5 : ¬ (O' w3.heap.size ∨ w3.heap.size = bm) := fun h => h.elim (fun h => absurd (C.lt _ _ _ H1.out _ h) (by omega)) (fun h => by omega)
            clear nb5 e9
            generalize hFV : (Value.func (Fn.func 31) #[] #[.pointer (some ⟨B2, 0, none⟩), .pointer (some ⟨B3, 0, none⟩), .pointer (some ⟨B4, 0, none⟩), .pointer (some ⟨B5, 0, none⟩)]) = FV at q5
            subst hFV
            go_region_held3 (fun w' => w'.cell? ⟨B5, 0, none⟩ = some (.func (.func 31) #[] #[.pointer (some ⟨B2, 0, none⟩), .pointer (some ⟨B3, 0, none⟩), .pointer (some ⟨B4, 0, none⟩), .pointer (some ⟨B5, 0, none⟩)]) ∧ w'.cell? ⟨w3.heap.size, 0, none⟩ = some (.int .i64 nx) ∧ w'.cell? ⟨w3.heap.size, 1, none⟩ = some (.int .i64 ny))
              (first
                | exact ⟨q5, qx, qy⟩
                | exact ⟨HF9.cell (pw_cell_below hbA q5) n5, HF9.cell (pw_cell_below hbA qx) nx5, HF9.cell (pw_cell_below hbA qy) nx5⟩
                | exact ⟨pw_cell_below hbA q5, pw_cell_below hbA qx, pw_cell_below hbA qy⟩
                | (go_split_ands; exact ⟨pw_cell_below hbx (by assumption), pw_cell_below hbx (by assumption), pw_cell_below hbx (by assumption)⟩)
                | (go_split_ands; exact ⟨pw_cell_below (below_alloc (Below.refl _ _) _) (by assumption), pw_cell_below (below_alloc (Below.refl _ _) _) (by assumption), pw_cell_below (below_alloc (Below.refl _ _) _) (by assumption)⟩))
              (first
                | (go_at_call 33; refine (cloneB_any ga c word _ (by first | exact Kd.C_drew HC5.out | exact Kd.C_drew (Kd.C_alloc HC5.out _)) hWL).mono ?_; rintro e wx ⟨vx, rfl, hox, hbx⟩)
                | (refine Kd.R_append_rows_step (Kd.int .u8) (Rr := (Kd.int .u8).K w5) (w0 := w5) w5.heap.size (by rfl) _ _ 47 5 (.int .u8 0) 1 rfl Try.underlying47 hi5 rfl (by decide) (by decide) vx word [d] _ _ _ (fun _ => True) (fun _ => False) rfl rfl ?xO ?xR (fun _ _ h => h) (fun _ h => h.elim) (fun _ _ => trivial) ?xB ?xS ?xL ?_; (case xO => first | exact Kd.R_lower (Kd.R_alloc hox _) (by first | exact Nat.le_refl _ | simp) | exact Kd.R_lower hox (by first | exact Nat.le_refl _ | simp)); (case xR => first | exact lit1C _ d | exact Kd.C_below (Kd.C_drew (lit1C _ d)) hbx); (case xB => first | exact below_alloc (below_step (below_drew (Below.refl _ _)) hbx) _ | exact below_step (below_drew (below_alloc (Below.refl _ _) _)) hbx); (case xS => have hz_ := hbx.size; simp at hz_; simp; omega); (case xL => omega); intro v1 w1 hr1_ hbA hg1_ ha1_; have HRA := Aside0.mk hr1_; clear hr1_ hg1_ ha1_)
                | (go_at_call 31; refine (HC6.out _ _ ⟨hbA⟩ HRA.out).mono ?_; rintro e w9 ⟨rfl, O9, hI9, HF9, hO9, hM9⟩))
            all_goals
              obtain ⟨w10, hdel, hM10, ht10⟩ := dropS hM9 key.out HSN.out
              have r4 := HF9.cell (pw_cell_below hbA q4) n4
              have hbmO : ¬ O' bm := fun h => (H3.out bm h).elim hOb (fun h => absurd HM.out.lt (by have := hB0.out.size; omega))
              have hbAs := hbA.size
              have h9b : ¬ O9 bm := fun h => (hO9 bm h).elim hbmO (fun h => by have := F5.size; omega)
              have F10 : FrameBut (fun k => k = bm) w9 w10 := (FrameBut.refl _ _).turned ht10 (.inl rfl)
              have I10 := Aside0.mk (C.frame hI9 F10 (fun k hk h => h9b (h ▸ hk)))
              have G10 := Aside0.mk ((((G5.mono (O1 := fun k => O' k ∨ k = bm) (fun k _ h => .inr h)).below (hbA.mono (Nat.le_refl _))).trans HF9 (fun k h => .inl h)).trans F10 (fun k h => .inl (.inr h)))
              have O10 : Aside0 (∀ k, O9 k → O' k ∨ wr.heap.size ≤ k) := ⟨fun k hk => (hO9 k hk).imp id (fun h => by have := G5.size; omega)⟩
              clear hI9 HF9 hO9 hM9 ht10 F10 hlk hst
              go_wp2
              go_roundg (4 - (kk + 1))
              case measure => omega
              case rel => exact ⟨kk + 1, by omega, by omega, by go_num, ⟨LoopsMid.next HT.out (by rw [hP.out]; exact I10.out) H2.out H3.out G10.out O10.out hM10⟩⟩
    · have hkk4 : kk = 4 := by omega
      subst hkk4
      have hltz : ¬ ((4 : Nat) : Int) < 4 := by omega
      go_wp2_with fail
      obtain ⟨O', h1, h2, h3, h4⟩ := HMid.out
      refine bodyPost_ret (v := .tuple #[]) (by simp [results, Try.results31, go_sem]) rfl ⟨rfl, O', ?_, ?_, ?_, h4⟩
      · exact h1
      · exact (FrameBut.of_below hB0.out).trans h2 (fun k hk => .inl hk)
      · exact fun k hk => (h3 k hk).imp id (fun h => by have := hB0.out.size; omega)

set_option maxRecDepth 100000 in
theorem loopsWalk_any (ge : Nat) (lbe : Array Value) (max_ : Nat) (good : List Int → Prop) (Inv : List (List Int) → (Nat → Prop) → World → Prop) (C : CB Try.prog ge lbe (fun l => .string (strOfNums l)) good max_ Inv) (eg : ∀ args w, (callFunc ge args).run Try.prog w = .ok (.enter ge args) w)
    (n : Int) (B2 B3 B4 B5 bm : Nat) (hn : n ≤ 100) : ∀ (m : Nat) (S : List (Int × Int)) (ms : Nat) (word : List Int) (v : Value) (x y : Int) (acc : List (List Int)) (O Kp : Nat → Prop) (w : World),
      LoopsIn w n B2 B3 B4 B5 bm ge lbe Kp → (∀ k, O k → ¬ Kp k) → ¬ Kp bm → MapIs w Try.prog 43 bm ms cornV (inS S) → Inv acc O w → ¬ O bm → Kd.R (Kd.int .u8) 5 w 0 Kp v word → (∀ k, Kp k → k < w.heap.size) → (0, 0) ∈ S → word ≠ [] → (word.length : Int) + m = n → n ≤ 100 → ms + m ≤ 1000 →
      -1000 + (m : Int) ≤ x → x ≤ 1000 - (m : Int) → -1000 + (m : Int) ≤ y → y ≤ 1000 - (m : Int) → (∀ z ∈ walkW m S word x y, good z) → acc.length + 4 ^ m ≤ max_ →
      Calls Try.prog 31 #[v, .agg #[.int .i64 x, .int .i64 y], .pointer (some ⟨B2, 0, none⟩), .pointer (some ⟨B3, 0, none⟩), .pointer (some ⟨B4, 0, none⟩), .pointer (some ⟨B5, 0, none⟩)] w (LoopsPost acc (walkW m S word x y) O Inv bm ms S w)
  | 0 => fun S ms word v x y acc O Kp w hin hO hbm hM hI hOb hw hKp h00 hne hl hn hms hx1 hx2 hy1 hy2 hg hmax =>
    loopsWalk_zero ge lbe max_ good Inv C eg n B2 B3 B4 B5 bm S ms word v x y acc O Kp w hin hO hbm hM hI hOb hw (by simpa using hl) hn (fun h => hg word (by simp [walkW, h])) (by simp at hmax; omega)
  | m + 1 => loopsWalk_succ ge lbe max_ good Inv C eg m n B2 B3 B4 B5 bm (fun S ms word v x y acc O Kp w hin hO hbm hM hI hOb hw hKp h00 hne hl hn hms hx1 hx2 hy1 hy2 hg hmax => loopsWalk_any ge lbe max_ good Inv C eg n B2 B3 B4 B5 bm hn m S ms word v x y acc O Kp w hin hO hbm hM hI hOb hw hKp h00 hne hl hn hms hx1 hx2 hy1 hy2 hg hmax)
theorem store_fn {P : Program} {w : World} {a : Addr} {m : Mode} (fn : Fn) (first cap : Array Value) : (store a (.func fn first cap) m).run P w = stored P w a (.func fn first cap) m := run_store P w a _ m rfl
attribute [local go_sem] store_fn
theorem cellAt {w : World} {c : Array Value} {t : TypeId} {n i : Nat} {v : Value} (hn : n = w.heap.size) (hv : c[i]? = some v) : (w.alloc (.cells c t)).cell? ⟨n, i, none⟩ = some v := (World.cell?_alloc_at (w := w) c t n i hn).trans hv
theorem cellPast {w : World} {o : Obj} {n i : Nat} {v : Value} (h : w.cell? ⟨n, i, none⟩ = some v) : (w.alloc o).cell? ⟨n, i, none⟩ = some v := pw_cell_below (below_alloc (Below.refl _ _) _) h
set_option maxRecDepth 100000 in
set_option maxHeartbeats 4000000 in
theorem loops_any (ge : Nat) (lbe : Array Value) (max_ : Nat) (good : List Int → Prop) (Inv : List (List Int) → (Nat → Prop) → World → Prop) (C : CB Try.prog ge lbe (fun l => .string (strOfNums l)) good max_ Inv) (eg : ∀ args w, (callFunc ge args).run Try.prog w = .ok (.enter ge args) w)
    (m : Nat) (acc : List (List Int)) (O : Nat → Prop) (w : World) (hm : m ≤ 90) (hI : Inv acc O w) (hg : ∀ z ∈ walkW m [(1, 0), (0, 0)] [101] 1 0, good z) (hmax : acc.length + 4 ^ m ≤ max_) :
    Calls Try.prog 20 #[.int .i64 ((m : Int) + 1), .func (.func ge) #[] lbe] w fun e w' => e = .returned (.tuple #[]) ∧ ∃ O', Inv (acc ++ walkW m [(1, 0), (0, 0)] [101] 1 0) O' w' ∧ FrameBut O w w' ∧ ∀ k, O' k → O k ∨ w.heap.size ≤ k := by
  have hmm := @run_makeMap Try.prog
  have hmf : ∀ (fn : Fn) (first cap : Array Value) (w : World), (Instr.makeFunc fn first cap).run Try.prog w = .ok (.func fn first cap) w := fun _ _ _ _ => rfl
  have HI := Aside0.mk hI
  have HG := Aside0.mk hg
  have HMX := Aside0.mk hmax
  clear hI hg hmax
  have M0 : MapIs (((w.alloc (.cells #[.int .i64 ((m : Int) + 1)] 3)).alloc (.cells #[.func (.func ge) #[] lbe] 36)).alloc (.map #[] 0)) Try.prog 43 (w.heap.size + 1 + 1) 0 cornV (inS []) := by
    have := MapIs.made ((w.alloc (.cells #[.int .i64 ((m : Int) + 1)] 3)).alloc (.cells #[.func (.func ge) #[] lbe] 36)) Try.prog 43 cornV
    have h2 : (w.alloc (.cells #[.int .i64 ((m : Int) + 1)] 3)).heap.size + 1 = w.heap.size + 1 + 1 := by simp
    have h3 : ((w.alloc (.cells #[.int .i64 ((m : Int) + 1)] 3)).alloc (.cells #[.func (.func ge) #[] lbe] 36)).heap.size = w.heap.size + 1 + 1 := by simp
    rw [h3] at this
    exact this.congr (fun c kl _ => by simp [inS])
  obtain ⟨w3, hst1, hM1, ht1⟩ := storeS M0 (cornKey 0 0 (i64_wf 0 (by omega) (by omega)) (i64_wf 0 (by omega) (by omega))) (by simp) (by omega)
  have hz3 : w.heap.size + 3 ≤ w3.heap.size := by have := ht1.grown.size; simp at this; omega
  have hblk : ∀ k, k < w.heap.size + 1 + 1 → w3.heap[k]? = ((w.alloc (.cells #[.int .i64 ((m : Int) + 1)] 3)).alloc (.cells #[.func (.func ge) #[] lbe] 36)).heap[k]? := fun k hk => by
    rw [ht1.grown.block k (by simp; omega) (by simp; omega), Below.heap_alloc _ _ _ (by simp; omega)]
  have hM1' := ((hM1.alloc (.cells #[.map (some (w.heap.size + 1 + 1))] 45)).alloc (.cells #[.func (.func 31) #[] #[.pointer (some ⟨w.heap.size, 0, none⟩), .pointer (some ⟨w.heap.size + 1, 0, none⟩), .pointer (some ⟨w3.heap.size, 0, none⟩), .pointer (some ⟨w3.heap.size + 1, 0, none⟩)]] 46)).alloc (.cells #[.int .i64 1, .int .i64 0] 43)
  obtain ⟨w5, hst2, hM2, ht2⟩ := storeS hM1' (cornKey 1 0 (i64_wf 1 (by omega) (by omega)) (i64_wf 0 (by omega) (by omega))) (by simp) (by omega)
  have F5 : FrameBut (fun k => k = w.heap.size + 1 + 1) _ w5 := (FrameBut.refl _ _).turned ht2 (.inl rfl)
  have x2 : w3.cell? ⟨w.heap.size, 0, none⟩ = some (.int .i64 ((m : Int) + 1)) := (World.cell?_of_block (w := (w.alloc (.cells #[.int .i64 ((m : Int) + 1)] 3)).alloc (.cells #[.func (.func ge) #[] lbe] 36)) (hblk _ (by simp only; omega))).trans (cellPast (cellAt rfl rfl))
  have x3 : w3.cell? ⟨w.heap.size + 1, 0, none⟩ = some (.func (.func ge) #[] lbe) := (World.cell?_of_block (w := (w.alloc (.cells #[.int .i64 ((m : Int) + 1)] 3)).alloc (.cells #[.func (.func ge) #[] lbe] 36)) (hblk _ (by simp only; omega))).trans (cellAt (by simp) rfl)
  have hA : ∀ {o1 o2 o3 : Obj} {a : Addr} {v : Value}, w3.cell? a = some v → (((w3.alloc o1).alloc o2).alloc o3).cell? a = some v := fun h => pw_cell_below (below_alloc (below_alloc (below_alloc (Below.refl _ _) _) _) _) h
  have y2 := F5.cell (hA x2) (fun h => by omega)
  have y3 := F5.cell (hA x3) (fun h => by omega)
  have y4 := F5.cell (b := w3.heap.size) (i := 0) (v := .map (some (w.heap.size + 1 + 1))) (cellPast (cellPast (cellAt rfl rfl))) (fun h => by omega)
  have y5 := F5.cell (b := w3.heap.size + 1) (i := 0) (v := .func (.func 31) #[] #[.pointer (some ⟨w.heap.size, 0, none⟩), .pointer (some ⟨w.heap.size + 1, 0, none⟩), .pointer (some ⟨w3.heap.size, 0, none⟩), .pointer (some ⟨w3.heap.size + 1, 0, none⟩)]) (cellPast (cellAt (by simp) rfl)) (fun h => by omega)
  have yx := F5.cell (b := w3.heap.size + 1 + 1) (i := 0) (v := .int .i64 1) (cellAt (by simp) rfl) (fun h => by omega)
  have yy := F5.cell (b := w3.heap.size + 1 + 1) (i := 1) (v := .int .i64 0) (cellAt (by simp) rfl) (fun h => by omega)
  have hz5 : w3.heap.size + 3 ≤ w5.heap.size := by have := F5.size; simp at this; omega
  have G3 : FrameBut (fun k => k = w.heap.size + 1 + 1) w w3 := (((FrameBut.refl _ w).alloc (.cells #[.int .i64 ((m : Int) + 1)] 3)).alloc (.cells #[.func (.func ge) #[] lbe] 36)).alloc (.map #[] 0) |>.turned ht1 (.inl rfl)
  have G5 := Aside0.mk ((((G3.alloc (.cells #[.map (some (w.heap.size + 1 + 1))] 45)).alloc (.cells #[.func (.func 31) #[] #[.pointer (some ⟨w.heap.size, 0, none⟩), .pointer (some ⟨w.heap.size + 1, 0, none⟩), .pointer (some ⟨w3.heap.size, 0, none⟩), .pointer (some ⟨w3.heap.size + 1, 0, none⟩)]] 46)).alloc (.cells #[.int .i64 1, .int .i64 0] 43)).turned ht2 (.inl rfl))
  have hOlt := fun k hk => C.lt acc O w HI.out k hk
  have HC : Aside0 (Calls Try.prog 31 #[.slice (some ⟨w5.heap.size, 0, none⟩) 1 1, .agg #[.int .i64 1, .int .i64 0], .pointer (some ⟨w.heap.size, 0, none⟩), .pointer (some ⟨w.heap.size + 1, 0, none⟩), .pointer (some ⟨w3.heap.size, 0, none⟩), .pointer (some ⟨w3.heap.size + 1, 0, none⟩)] (w5.alloc (.cells #[.int .u8 101] 5))
      (LoopsPost acc (walkW m [(1, 0), (0, 0)] [101] 1 0) O Inv (w.heap.size + 1 + 1) 2 [(1, 0), (0, 0)] (w5.alloc (.cells #[.int .u8 101] 5)))) := by
    have hal : ∀ {a : Addr} {v : Value}, w5.cell? a = some v → (w5.alloc (.cells #[.int .u8 101] 5)).cell? a = some v := fun h => pw_cell_below (below_alloc (Below.refl _ _) _) h
    refine ⟨loopsWalk_any ge lbe max_ good Inv C eg ((m : Int) + 1) w.heap.size (w.heap.size + 1) w3.heap.size (w3.heap.size + 1) (w.heap.size + 1 + 1) (by omega) m [(1, 0), (0, 0)] 2 [101] _ 1 0 acc O (fun k => w.heap.size ≤ k ∧ k < w5.heap.size + 1 ∧ k ≠ w.heap.size + 1 + 1) _
      ⟨hal y2, hal y3, hal y4, hal y5, ⟨by omega, by omega, by omega⟩, ⟨by omega, by omega, by omega⟩, ⟨by omega, by omega, by omega⟩, ⟨by omega, by omega, by omega⟩⟩ (fun k hk h => ?_) (fun h => h.2.2 rfl) (hM2.alloc _) ?_ (fun h => ?_) ?_ (fun k hk => ?_) (by simp) (by simp) (by simp; omega) (by omega) (by omega) (by omega) (by omega) (by omega) (by omega) HG.out HMX.out⟩
    · have := hOlt k hk; omega
    · exact C.below (C.frame HI.out G5.out (fun k hk h => by have := hOlt k hk; omega)) (below_alloc (Below.refl _ _) _)
    · have := hOlt _ h; omega
    · have h := Kd.R_of_own (enc := Value.int .u8) (h1 := fun _ => rfl) (ok := fun k => w.heap.size ≤ k ∧ k < w5.heap.size + 1 ∧ k ≠ w.heap.size + 1 + 1) (own_lit w5 w5.heap.size 5 .u8 [101] (Nat.le_refl _) (by simp)) (fun k hk => by simp [Value.ownBlock] at hk; subst hk; exact ⟨by omega, by omega, by omega⟩)
      exact Kd.R_lower h (Nat.zero_le _)
    · simp; exact hk.2.1
  clear M0 hM1 ht1 hblk hM1' hM2 ht2 F5 G3 hA x2 x3
  have hlt6 : w3.heap.size + 1 + 1 < w5.heap.size := by omega
  go_enter Try.func20, Try.ntmps20
  go_wp2_with ((go_at_call 31; refine HC.out.mono ?_; rintro e w9 ⟨rfl, O9, hI9, hF9, hO9, hM9⟩))
  refine bodyPost_end (v := .tuple #[]) (by simp [results, Try.results20, go_sem]) rfl ⟨rfl, O9, hI9, ?_, fun k hk => (hO9 k hk).imp id (fun h => by simp at h; have := G5.out.size; omega)⟩
  have h9 : FrameBut (fun k => O k ∨ k = w.heap.size + 1 + 1) w w9 := ((G5.out.alloc (.cells #[.int .u8 101] 5)).mono (O1 := fun k => O k ∨ k = w.heap.size + 1 + 1) (fun k _ h => .inr h)).trans hF9 (fun k h => .inl h)
  exact ⟨h9.os, h9.tape, h9.output, h9.size, fun k hk hn => h9.block k hk (fun h => h.elim hn (fun h => by omega))⟩

end Go.Proofs.Ytbnkdfmomcmmaaa.P


namespace Go.Proofs.Ytbnkdfmomcmmaaa.P
open Go.RowKit Go.Proofs.YtbnkdfmomcmmaaaW.PrintWords Go.Proofs.YtbnkdfmomcmmaaaW.PrintLast Go.Proofs.YtbnkdfmomcmmaaaW.PrintMore
attribute [local go_sem] max2_int min2_int max_two min_two max_three min_three max_four min_four   -- for this text's walks alone
set_option linter.unusedVariables false
set_option linter.unusedSimpArgs false

def impl_bit.f (a0 : Bool) : Option (Int) := if a0 = true then (some 1) else (some 0)
set_option maxHeartbeats 8000000 in
set_option maxRecDepth 100000 in
theorem impl_bit.calls (a0 : Bool) (r : Int) (w : World) (h : impl_bit.f a0 = some r) :
    Calls Try.prog 29 #[.bool a0] w fun e w' => e = .returned (.int .i64 r) ∧ Drawn0 w w' := by
  have H : (if a0 = true then (some 1) else (some 0)) = some r := h
  clear h
  by_cases c2 : a0 = true
  · subst c2
    have H1 : (some 1) = some r := by rw [if_pos rfl] at H; exact H
    clear H
    have H := H1
    clear H1
    obtain rfl := Option.some.inj H
    go_enter Try.func29, Try.ntmps29
    go_wp2
    go_ret
    exact ⟨by first | rfl | (simp; done) | (simp [*]; done), by repeat (first | exact Drawn0.refl _ | apply Drawn0.step)⟩
  · replace c2 := Bool.eq_false_iff.mpr c2
    subst c2
    have H1 : (some 0) = some r := by rw [if_neg (show ¬ (false = true) by decide)] at H; exact H
    clear H
    have H := H1
    clear H1
    obtain rfl := Option.some.inj H
    go_enter Try.func29, Try.ntmps29
    go_wp2
    go_ret
    exact ⟨by first | rfl | (simp; done) | (simp [*]; done), by repeat (first | exact Drawn0.refl _ | apply Drawn0.step)⟩

end Go.Proofs.Ytbnkdfmomcmmaaa.P


namespace Go.Proofs.Ytbnkdfmomcmmaaa.P
open Go.RowKit Go.Proofs.YtbnkdfmomcmmaaaW.PrintWords Go.Proofs.YtbnkdfmomcmmaaaW.PrintLast Go.Proofs.YtbnkdfmomcmmaaaW.PrintMore
attribute [local go_sem] max2_int min2_int max_two min_two max_three min_three max_four min_four   -- for this text's walks alone
set_option linter.unusedVariables false
set_option linter.unusedSimpArgs false

def Accept (ga : Nat) (lba : Array Value) (p : List Int → Bool) (good : List Int → Prop) (A : Nat → Prop) (W0 : World) : Prop :=
  (∀ k, A k → k < W0.heap.size) ∧ ∀ (W : World) (x : List Int), (∀ k, A k → W.heap[k]? = W0.heap[k]?) → good x →
    Calls Try.prog ga (#[.string (strOfNums x)] ++ lba) W fun e w' => e = .returned (.bool (p x)) ∧ Below W.heap.size W w'
def cntP (p : List Int → Bool) (acc : List (List Int)) : Int := ((acc.filter p).length : Int)
def CountInv (Bm Ba ga : Nat) (lba : Array Value) (p : List Int → Bool) (good : List Int → Prop) (A : Nat → Prop) (W0 : World) (acc : List (List Int)) (O : Nat → Prop) (W : World) : Prop :=
  W.cell? ⟨Bm, 0, none⟩ = some (.int .i64 (cntP p acc)) ∧ W.frozen? ⟨Bm, 0, none⟩ = false ∧ W.cell? ⟨Ba, 0, none⟩ = some (.func (.func ga) #[] lba) ∧ (∀ k, A k → W.heap[k]? = W0.heap[k]?) ∧ (∀ k, O k ↔ k = Bm ∨ k = Ba ∨ A k) ∧ W0.heap.size ≤ W.heap.size
set_option maxRecDepth 100000 in
set_option maxHeartbeats 4000000 in
theorem countLit_any (Bm Ba ga : Nat) (lba : Array Value) (p : List Int → Bool) (good : List Int → Prop) (A : Nat → Prop) (W0 : World) (ega : ∀ args w, (callFunc ga args).run Try.prog w = .ok (.enter ga args) w) (hacc : Accept ga lba p good A W0) (hA : ¬ A Bm) (hne : Ba ≠ Bm) (x : List Int) (acc : List (List Int)) (O : Nat → Prop) (w : World) (hg : good x) (hlen : acc.length < 1000000000000) (hI : CountInv Bm Ba ga lba p good A W0 acc O w) :
    Calls Try.prog 28 #[.string (strOfNums x), .pointer (some ⟨Bm, 0, none⟩), .pointer (some ⟨Ba, 0, none⟩)] w fun e w' => e = .returned (.tuple #[]) ∧ ∃ O', CountInv Bm Ba ga lba p good A W0 (acc ++ [x]) O' w' ∧ FrameBut O w w' ∧ ∀ k, O' k → O k ∨ w.heap.size ≤ k := by
  obtain ⟨c1, f1, c2, hsame, hO, hsz⟩ := hI
  have hcall := fun W h => hacc.2 W x h hg
  have hlt := hacc.1
  have hc0 : 0 ≤ cntP p acc ∧ cntP p acc ≤ 1000000000000 := by
    unfold cntP
    have := List.length_filter_le p acc
    omega
  have b1 := World.block_lt_of_cell? w _ c1
  have b2 := World.block_lt_of_cell? w _ c2
  have HS := Aside0.mk hsame
  have HO := Aside0.mk hO
  have HCL := Aside0.mk hcall
  have HLT := Aside0.mk hlt
  have HB : Aside0 (impl_bit.f (p x) = some (if p x then 1 else 0)) := ⟨by unfold impl_bit.f; cases p x <;> rfl⟩
  clear hsame hO hcall hlt hacc
  have hcnt : Aside0 (cntP p (acc ++ [x]) = cntP p acc + (if p x then 1 else 0)) := ⟨by unfold cntP; rw [List.filter_append]; cases h : p x <;> simp [h]⟩
  obtain ⟨N, hN⟩ : ∃ N, N = cntP p acc := ⟨_, rfl⟩
  rw [← hN] at c1 hc0
  have HN := Aside0.mk hN
  clear hN
  obtain ⟨hc1, hc2⟩ := hc0
  go_enter Try.func28, Try.ntmps28
  go_wp2_with fail
  go_region_law (first
    | (go_simp; go_at_fn ga; refine (HCL.out _ ?xA).mono ?_; (case xA => exact fun k hk => HS.out k hk); rintro e wx ⟨rfl, hbx⟩; have cx1 := pw_cell_below hbx c1; have cx2 := pw_cell_below hbx c2; have fx1 := (hbx.frozen (p := ⟨Bm, 0, none⟩) b1).trans f1)
    | (go_simp; go_at_call 29; refine (impl_bit.calls _ _ _ HB.out).mono ?_; rintro e wy ⟨rfl, ⟨nd, rfl⟩⟩))
  all_goals
    have hwr : IntKind.i64.wrap (N + if p x = true then 1 else 0) = cntP p (acc ++ [x]) := by
      rw [hcnt.out, ← HN.out]
      exact IntWalk.i64_in _ (by split <;> omega)
    have hbw : Below w.heap.size w wx := (below_drew (Below.refl _ _)).trans hbx
    refine bodyPost_end (v := .tuple #[]) (by simp [results, Try.results28, go_sem]) rfl ⟨rfl, O, ⟨?_, ?_, ?_, fun k hk => ?_, HO.out, ?_⟩, ?_, fun k hk => .inl hk⟩
    · rw [hwr]; apply World.cell?_setCell_same; exact cx1
    · rw [World.frozen?_setCell]; exact fx1
    · exact (World.cell?_of_block (w := wx) (a := ⟨Ba, 0, none⟩) (Below.heap_setCell _ _ _ _ hne)).trans cx2
    · have hkb : k ≠ Bm := fun h => hA (h ▸ hk)
      rw [Below.heap_setCell _ _ _ _ (show k ≠ (⟨Bm, 0, none⟩ : Addr).block from hkb)]
      exact (hbw.block k (by have := HLT.out k hk; omega)).trans (HS.out k hk)
    · have := hbw.size; simp [World.setCell]; exact Nat.le_trans hsz this
    · exact ((FrameBut.of_below hbw).drewN nd).setCell (.inl ((HO.out Bm).2 (.inl rfl))) _
theorem countCB (Bm Ba ga : Nat) (lba : Array Value) (p : List Int → Bool) (good : List Int → Prop) (A : Nat → Prop) (W0 : World) (ega : ∀ args w, (callFunc ga args).run Try.prog w = .ok (.enter ga args) w) (hacc : Accept ga lba p good A W0) (hA : ¬ A Bm) (hne : Ba ≠ Bm) :
    CB Try.prog 28 #[.pointer (some ⟨Bm, 0, none⟩), .pointer (some ⟨Ba, 0, none⟩)] (fun l => .string (strOfNums l)) good 1000000000000 (CountInv Bm Ba ga lba p good A W0) where
  call := fun acc O W x hlen hg hI => countLit_any Bm Ba ga lba p good A W0 ega hacc hA hne x acc O W hg hlen hI
  move := fun acc O W W' hI hs _ _ _ hk => by
    obtain ⟨c1, f1, c2, hsame, hO, hsz⟩ := hI
    have hm := hk Bm ((hO Bm).2 (.inl rfl))
    have ha := hk Ba ((hO Ba).2 (.inr (.inl rfl)))
    exact ⟨(World.cell?_of_block (w := W) (a := ⟨Bm, 0, none⟩) hm).trans c1, (World.frozen?_of_block (w := W) (a := ⟨Bm, 0, none⟩) hm).trans f1, (World.cell?_of_block (w := W) (a := ⟨Ba, 0, none⟩) ha).trans c2, fun k hkA => (hk k ((hO k).2 (.inr (.inr hkA)))).trans (hsame k hkA), hO, Nat.le_trans hsz hs⟩
  lt := fun acc O W hI k hk => by
    obtain ⟨c1, f1, c2, hsame, hO, hsz⟩ := hI
    rcases (hO k).1 hk with rfl | rfl | h
    · exact World.block_lt_of_cell? W _ c1
    · exact World.block_lt_of_cell? W _ c2
    · exact Nat.lt_of_lt_of_le (hacc.1 k h) hsz
def loopWords (m : Nat) : List (List Int) := walkW m [(1, 0), (0, 0)] [101] 1 0
set_option maxRecDepth 100000 in
set_option maxHeartbeats 4000000 in
theorem countLoops_no (n : Int) (ga : Nat) (lba : Array Value) (w : World) (hno : impl_isLength.f n = some false) :
    Calls Try.prog 17 #[.int .i64 n, .func (.func ga) #[] lba] w fun e w' => e = .returned (.tuple #[.int .i64 0, .bool false]) ∧ Below w.heap.size w w' := by
  have H := Aside0.mk hno
  clear hno
  go_enter Try.func17, Try.ntmps17
  go_wp2_with ((go_at_call 19; refine (impl_isLength.calls _ _ _ H.out).mono ?_; rintro e w1 ⟨rfl, ⟨nd, rfl⟩⟩))
  go_ret2
  exact ⟨rfl, pw_below_drewN (below_alloc (Below.refl _ _) _) _⟩
set_option maxRecDepth 100000 in
set_option maxHeartbeats 4000000 in
theorem countLoops_yes (ga : Nat) (lba : Array Value) (p : List Int → Bool) (good : List Int → Prop) (A : Nat → Prop) (ega : ∀ args w, (callFunc ga args).run Try.prog w = .ok (.enter ga args) w) (m : Nat) (w : World) (hm : m ≤ 13) (hyes : impl_isLength.f ((m : Int) + 1) = some true) (hacc : Accept ga lba p good A w) (hg : ∀ z ∈ loopWords m, good z) :
    Calls Try.prog 17 #[.int .i64 ((m : Int) + 1), .func (.func ga) #[] lba] w fun e w' => e = .returned (.tuple #[.int .i64 ((loopWords m).filter p).length, .bool true]) ∧ Below w.heap.size w w' := by
  have H := Aside0.mk hyes
  have HG := Aside0.mk hg
  have HA := Aside0.mk hacc
  have hmf : ∀ (fn : Fn) (first cap : Array Value) (w : World), (Instr.makeFunc fn first cap).run Try.prog w = .ok (.func fn first cap) w := fun _ _ _ _ => rfl
  have eg : ∀ args w, (callFunc 28 args).run Try.prog w = .ok (.enter 28 args) w := enters_of Try.func28 (by kernel_rfl) rfl
  have hcon : ∀ W : World, Aside0 (Below w.heap.size w W) → W.cell? ⟨w.heap.size, 0, none⟩ = some (.func (.func ga) #[] lba) → W.cell? ⟨w.heap.size + 1, 0, none⟩ = some (.int .i64 0) → W.frozen? ⟨w.heap.size + 1, 0, none⟩ = false →
      Calls Try.prog 20 #[.int .i64 ((m : Int) + 1), .func (.func 28) #[] #[.pointer (some ⟨w.heap.size + 1, 0, none⟩), .pointer (some ⟨w.heap.size, 0, none⟩)]] W fun e w' => e = .returned (.tuple #[]) ∧ w'.cell? ⟨w.heap.size + 1, 0, none⟩ = some (.int .i64 ((loopWords m).filter p).length) ∧ Below w.heap.size w w' := fun W hB h1 h2 h3 => by
    have CBk := countCB (w.heap.size + 1) w.heap.size ga lba p good A w ega HA.out (fun h => absurd (HA.out.1 _ h) (by omega)) (by omega)
    refine (loops_any 28 _ 1000000000000 good _ CBk eg m [] (fun k => k = w.heap.size + 1 ∨ k = w.heap.size ∨ A k) W (by omega) ⟨h2, h3, h1, fun k hk => hB.out.block k (HA.out.1 k hk), fun k => Iff.rfl, hB.out.size⟩ HG.out ?_).mono ?_
    · have : 4 ^ m ≤ 4 ^ 13 := Nat.pow_le_pow_right (by omega) hm
      simp only [List.length_nil]
      omega
    · rintro e w' ⟨rfl, O', ⟨i1, i2, i3, i4, i5, i6⟩, hF, hO'⟩
      refine ⟨rfl, i1, ?_⟩
      refine ⟨hF.os.trans hB.out.os, hF.tape.trans hB.out.tape, hF.output.trans hB.out.output, i6, fun k hk => ?_⟩
      by_cases hA : A k
      · exact i4 k hA
      · exact (hF.block k (Nat.lt_of_lt_of_le hk hB.out.size) (fun h => by rcases h with h | h | h <;> first | omega | exact hA h)).trans (hB.out.block k hk)
  have HC := Aside0.mk hcon
  clear hcon hyes hg hacc eg
  generalize ((loopWords m).filter p).length = R at HC ⊢
  go_enter Try.func17, Try.ntmps17
  go_wp2_with (first
    | (go_at_call 19; refine (impl_isLength.calls _ _ _ H.out).mono ?_; rintro e w1 ⟨rfl, ⟨nd, rfl⟩⟩)
    | (go_at_call 20; refine (HC.out _ ?xB ?x1 ?x2 ?x3).mono ?_; (case xB => exact ⟨by repeat (first | exact Below.refl _ _ | apply below_alloc | apply pw_below_drewN | apply below_drew)⟩); (case x1 => go_simp); (case x2 => go_simp); (case x3 => go_simp); rintro e w2 ⟨rfl, hc, hb⟩; have HB2 := Aside0.mk hb; clear hb))
  go_ret2
  exact ⟨rfl, HB2.out⟩

end Go.Proofs.Ytbnkdfmomcmmaaa.P


namespace Go.Proofs.Ytbnkdfmomcmmaaa.P
open Go.RowKit Go.Proofs.YtbnkdfmomcmmaaaW.PrintWords Go.Proofs.YtbnkdfmomcmmaaaW.PrintLast Go.Proofs.YtbnkdfmomcmmaaaW.PrintMore
attribute [local go_sem] max2_int min2_int max_two min_two max_three min_three max_four min_four   -- for this text's walks alone
set_option linter.unusedVariables false
set_option linter.unusedSimpArgs false

theorem blk_keep {W w1 : World} {g : Nat} {o : Obj} (h : W.heap[g]? = some o) (hb : Below W.heap.size W w1) : w1.heap[g]? = some o :=
  (hb.block g (Array.getElem?_eq_some_iff.1 h).1).trans h
end Go.Proofs.Ytbnkdfmomcmmaaa.P


namespace Go.Proofs.Ytbnkdfmomcmmaaa.P
open Go.RowKit Go.Proofs.YtbnkdfmomcmmaaaW.PrintWords Go.Proofs.YtbnkdfmomcmmaaaW.PrintLast Go.Proofs.YtbnkdfmomcmmaaaW.PrintMore
attribute [local go_sem] max2_int min2_int max_two min_two max_three min_three max_four min_four   -- for this text's walks alone
set_option linter.unusedVariables false
set_option linter.unusedSimpArgs false

def nextC (c : S43) (b : Int) : S43 := match impl_Corner_next.f c.f0 c.f1 b with
  | some (x, y) => ⟨x, y⟩
  | none => ⟨0, 0⟩
def walkFrom (c : S43) : List UInt8 → List S43
  | [] => []
  | b :: t => nextC c (b.toNat : Int) :: walkFrom (nextC c (b.toNat : Int)) t
def cornersL (l : List UInt8) : List S43 := ⟨0, 0⟩ :: walkFrom ⟨0, 0⟩ l
theorem walkFrom_len : ∀ (l : List UInt8) (c : S43), (walkFrom c l).length = l.length
  | [], _ => rfl
  | b :: t, c => by unfold walkFrom; rw [List.length_cons, walkFrom_len t, List.length_cons]
theorem cornersL_len (l : List UInt8) : (cornersL l).length = l.length + 1 := by unfold cornersL; rw [List.length_cons, walkFrom_len]
theorem walkFrom_snoc : ∀ (l : List UInt8) (c : S43) (b : UInt8), walkFrom c (l ++ [b]) = walkFrom c l ++ [nextC ((c :: walkFrom c l).getD l.length ⟨0, 0⟩) (b.toNat : Int)]
  | [], c, b => by simp [walkFrom]
  | a :: t, c, b => by
    have ih := walkFrom_snoc t (nextC c (a.toNat : Int)) b
    rw [List.cons_append]
    simp only [walkFrom, List.cons_append, List.length_cons, List.getD_cons_succ]
    rw [ih]
theorem cornersL_snoc (l : List UInt8) (b : UInt8) : cornersL (l ++ [b]) = cornersL l ++ [nextC ((cornersL l).getD l.length ⟨0, 0⟩) (b.toNat : Int)] := by
  unfold cornersL
  rw [walkFrom_snoc, List.cons_append]
theorem next_some (c : S43) (b : Int) : impl_Corner_next.f c.f0 c.f1 b = some ((nextC c b).f0, (nextC c b).f1) := by
  have h : ∃ r, impl_Corner_next.f c.f0 c.f1 b = some r := by
    unfold impl_Corner_next.f
    repeat' split
    all_goals exact ⟨_, rfl⟩
  obtain ⟨⟨x, y⟩, h⟩ := h
  unfold nextC
  rw [h]
def inP (S : List (Int × Int)) (c : Int × Int) : Option Value := if c ∈ S then some (.bool true) else none
theorem next_bound (c : S43) (b : Int) (B : Int) (h0 : -B ≤ c.f0 ∧ c.f0 ≤ B) (h1 : -B ≤ c.f1 ∧ c.f1 ≤ B) (hB : B ≤ 100000) : (-(B + 1) ≤ (nextC c b).f0 ∧ (nextC c b).f0 ≤ B + 1) ∧ (-(B + 1) ≤ (nextC c b).f1 ∧ (nextC c b).f1 ≤ B + 1) := by
  have h := next_some c b
  generalize nextC c b = d at h
  unfold impl_Corner_next.f at h
  have e1 : wrap64 (c.f1 - 1) = c.f1 - 1 := by unfold wrap64; omega
  have e2 : wrap64 (c.f0 + 1) = c.f0 + 1 := by unfold wrap64; omega
  have e3 : wrap64 (c.f1 + 1) = c.f1 + 1 := by unfold wrap64; omega
  have e4 : wrap64 (c.f0 - 1) = c.f0 - 1 := by unfold wrap64; omega
  rw [e1, e2, e3, e4] at h
  clear e1 e2 e3 e4
  repeat' split at h
  all_goals (simp only [Option.some.injEq, Prod.mk.injEq] at h; omega)
theorem walkFrom_bound : ∀ (l : List UInt8) (c : S43) (B : Int), (-B ≤ c.f0 ∧ c.f0 ≤ B) → (-B ≤ c.f1 ∧ c.f1 ≤ B) → B + l.length ≤ 100000 → ∀ d ∈ walkFrom c l, (-(B + l.length) ≤ d.f0 ∧ d.f0 ≤ B + l.length) ∧ (-(B + l.length) ≤ d.f1 ∧ d.f1 ≤ B + l.length)
  | [], c, B, _, _, _, d, hd => by cases hd
  | b :: t, c, B, h0, h1, hB, d, hd => by
    simp only [walkFrom, List.mem_cons, List.length_cons] at hd hB ⊢
    obtain ⟨q0, q1⟩ := next_bound c (b.toNat : Int) B h0 h1 (by omega)
    rcases hd with rfl | hd
    · omega
    · have := walkFrom_bound t (nextC c (b.toNat : Int)) (B + 1) q0 q1 (by omega) d hd
      omega
theorem cornersL_bound (l : List UInt8) (hl : l.length ≤ 1000) : ∀ d ∈ cornersL l, (-1000 ≤ d.f0 ∧ d.f0 ≤ 1000) ∧ (-1000 ≤ d.f1 ∧ d.f1 ≤ 1000) := fun d hd => by
  unfold cornersL at hd
  rcases List.mem_cons.1 hd with rfl | hd
  · simp
  · have := walkFrom_bound l ⟨0, 0⟩ 0 (by simp) (by simp) (by omega) d hd
    omega
theorem rd_ofNat (l : List Int) (k : Nat) (h : k < l.length) : rd l (k : Int) = l[k] := by
  unfold rd; rw [Int.toNat_natCast, List.getD_eq_getElem?_getD, List.getElem?_eq_getElem h]; rfl
theorem R_oneC (w : World) (c : S43) : Kd.R k43 43 (w.alloc (.cells #[.int .i64 c.f0, .int .i64 c.f1] 43)) w.heap.size (fun k => k ≠ w.heap.size + 1) (.slice (some ⟨w.heap.size, 0, none⟩) 1 1) [c] := by
  refine ⟨fun k hk => ?_, [.int .i64 c.f0, .int .i64 c.f1], ?_, ?_⟩
  · simp [Value.ownBlock] at hk
    omega
  · have h := World.ownsRow_lit (base := w.heap.size) (e := 43) (size := 2) w #[.int .i64 c.f0, .int .i64 c.f1] 1 (Nat.le_refl _) (by simp [maxLen]) (by simp)
    have h2 : (w.alloc (.cells #[.int .i64 c.f0, .int .i64 c.f1] 43)).ownsRow w.heap.size 43 2 (.slice (some ⟨w.heap.size, 0, none⟩) 1 1) 1 [.int .i64 c.f0, .int .i64 c.f1] := by simpa using h
    exact h2
  · refine ⟨rfl, fun j p hj => ?_⟩
    obtain ⟨hjl, hp⟩ := List.getElem?_eq_some_iff.1 hj
    have hj0 : j = 0 := by simp at hjl; omega
    subst hj0
    have hpc : p = c := by simpa using hp.symm
    subst hpc
    exact k43_mkM _ _ _ p
theorem mkBytes {W : World} {g : Nat} {s : ByteArray} {cc : Nat} {fr : Nat × Nat} (h4 : W.heap[g]? = some (.cells (bytesRow s cc) 5 fr)) (hs2 : s.size ≤ 1000) : Kd.C (Kd.int .u8) W (some ⟨g, 0, none⟩) s.size (s.data.toList.map fun b => (b.toNat : Int)) := by
  refine Kd.C_of_reads (d := (0 : Int)) (h1 := fun _ => rfl) ⟨by rw [List.length_map]; rfl, by omega, fun _ => ⟨_, rfl, fun j hj => ?_⟩⟩
  have hj2 : j < s.data.size := by simpa using hj
  have hat := bytesRow_at s cc j hj2
  rw [add_plain]
  simp only [World.cell?, h4]
  simp [hat, hj2, List.getD_eq_getElem?_getD, Array.getElem?_eq_getElem hj2]
set_option maxRecDepth 100000 in
set_option maxHeartbeats 8000000 in
theorem walk_any (s : ByteArray) (hs : s.size ≤ 1000) (w : World) :
    Calls Try.prog 39 #[.string s] w fun e w' => ∃ v, e = .returned v ∧ Kd.R k43 43 w' w.heap.size (fun _ => True) v (cornersL s.data.toList) ∧ Below w.heap.size w w' := by
  have hconv := fun W : World => run_bytes_of_string (P := Try.prog) W 9 47 5 s Try.underlying9 Try.underlying47 Try.underlying5
  have hn : s.size ≤ 1000 := hs
  clear hs
  go_enter Try.func39, Try.ntmps39
  go_wp2_with fail
  have R0 := Aside0.mk (R_oneC w (⟨0, 0⟩ : S43))
  generalize grownCap (w.alloc (.cells #[.int .i64 0, .int .i64 0] 43)) s.size 0 5 = cc
  have BY0 : Aside0 ((((w.alloc (.cells #[.int .i64 0, .int .i64 0] 43)).alloc (.cells (bytesRow s cc) 5 ((bytesRow s cc).size, (bytesRow s cc).size + 1))).drew).heap[w.heap.size + 1]? = some (.cells (bytesRow s cc) 5 ((bytesRow s cc).size, (bytesRow s cc).size + 1))) := ⟨by
    have h := heap_alloc_new (w.alloc (.cells #[.int .i64 0, .int .i64 0] 43)) (.cells (bytesRow s cc) 5 ((bytesRow s cc).size, (bytesRow s cc).size + 1))
    have e : (w.alloc (.cells #[.int .i64 0, .int .i64 0] 43)).heap.size = w.heap.size + 1 := by simp
    rw [e] at h
    exact h⟩
  generalize hW : ((w.alloc (.cells #[.int .i64 0, .int .i64 0] 43)).alloc (.cells (bytesRow s cc) 5 ((bytesRow s cc).size, (bytesRow s cc).size + 1))).drew = W1 at BY0 ⊢
  have BW0 : Aside0 (Below w.heap.size w W1) := ⟨by rw [← hW]; exact below_drew (below_alloc (below_alloc (Below.refl _ _) _) _)⟩
  have RW0 : Aside0 (Kd.R k43 43 W1 w.heap.size (fun k => k ≠ w.heap.size + 1) (.slice (some ⟨w.heap.size, 0, none⟩) 1 1) (cornersL (s.data.toList.take 0))) := ⟨by rw [← hW]; exact Kd.R_drew (Kd.R_alloc R0.out _)⟩
  clear hW R0 hconv
  go_loopg [3, 5, 11] s.size (fun gg u3 _ u11 wr => ∃ i : Nat, i ≤ s.size ∧ s.size - i ≤ gg ∧ u11 = .int .i64 i ∧ Aside0 (Kd.R k43 43 wr w.heap.size (fun k => k ≠ w.heap.size + 1) u3 (cornersL (s.data.toList.take i))) ∧ Aside0 (Below w.heap.size w wr) ∧ Aside0 (wr.heap[w.heap.size + 1]? = some (.cells (bytesRow s cc) 5 ((bytesRow s cc).size, (bytesRow s cc).size + 1))))
  case atStart => exact ⟨0, Nat.zero_le _, by omega, rfl, RW0, BW0, BY0⟩
  case round =>
    clear RW0 BW0 BY0
    obtain ⟨i, hi, hgg, rfl, HO, HB, HY⟩ := hrel
    have hsz : s.data.toList.length = s.size := by simp
    obtain ⟨A, c, rfl⟩ := Kd.R_slice HO.out
    have hlen : (cornersL (s.data.toList.take i)).length = i + 1 := by rw [cornersL_len, List.length_take, hsz]; omega
    by_cases hlt : i < s.size
    · have hltz : (i : Int) < (s.size : Int) := by omega
      have hil : i < s.data.toList.length := by omega
      obtain ⟨ad, eA, hx⟩ := Kd.at_int (mkBytes HY.out hn) (i : Int) (by omega) (by omega)
      cases eA
      have HO2 : Aside0 (Kd.R k43 43 wr w.heap.size (fun k => k ≠ w.heap.size + 1) (.slice A (i + 1) c) (cornersL (s.data.toList.take i))) := ⟨by have h := HO.out; rw [hlen] at h; exact h⟩
      obtain ⟨ad2, eA2, hy1, hy2⟩ := at_T43 (Kd.R_reads' HO2.out).2.2 (i : Int) (by omega) (by rw [hlen]; omega)
      subst eA2
      rw [hlen]
      have hrd : rd (s.data.toList.map fun b => (b.toNat : Int)) (i : Int) = (((s.data.toList[i]'hil).toNat : Nat) : Int) := by
        rw [rd_ofNat _ _ (by rw [List.length_map]; exact hil), List.getElem_map]
      have htake : s.data.toList.take (i + 1) = s.data.toList.take i ++ [s.data.toList[i]'hil] := List.take_succ_eq_append_getElem hil
      have hcs := cornersL_snoc (s.data.toList.take i) (s.data.toList[i]'hil)
      rw [← htake, List.length_take, hsz, Nat.min_eq_left hi] at hcs
      have hrc : rd_T43 (cornersL (s.data.toList.take i)) (i : Int) = (cornersL (s.data.toList.take i)).getD i ⟨0, 0⟩ := by unfold rd_T43; rw [Int.toNat_natCast]; rfl
      rw [hrd] at hx
      rw [hrc, Int.toNat_natCast] at hy1 hy2
      rw [Int.toNat_natCast, add_plain] at hx
      have HCS := Aside0.mk hcs
      clear hcs hrd hrc htake HO hlen
      generalize (s.data.toList[i]'hil).toNat = b at hx HCS
      generalize hce : (cornersL (s.data.toList.take i)).getD i ⟨0, 0⟩ = ce at hy1 hy2 HCS
      clear hce
      have HN := Aside0.mk (next_some ce (b : Int))
      generalize nextC ce (b : Int) = nx at HN HCS
      generalize cornersL (s.data.toList.take i) = xs at HO2 HCS
      have e1 : IntKind.i64.wrap (((i + 1 : Nat) : Int) - 1) = (i : Int) := by rw [IntKind.wrap_i64]; omega
      have HL : Aside0 (xs.length = i + 1) := ⟨(Kd.R_reads' HO2.out).1.symm⟩
      go_wp2_with (first
        | (go_at_call 32; refine (impl_Corner_next.calls ce.f0 ce.f1 (b : Int) nx.f0 nx.f1 _ HN.out).mono ?_; rintro e wn ⟨rfl, hb⟩; have HO3 := Aside0.mk (Kd.R_below HO2.out hb); have HB3 := Aside0.mk (below_step HB.out hb); have HY3 := Aside0.mk (blk_keep HY.out hb); clear hb)
        | (at_builtin; refine Kd.R_append k43 (w0 := w) w.heap.size rfl (.tmp 15) (.tmp 24) 38 43 (.agg #[(.int .i64 0), (.int .i64 0)]) 16 rfl Try.underlying38 info43 rfl (by decide) (by omega) (.slice (some ad2) (i + 1) c) xs nx [.int .i64 nx.f0, .int .i64 nx.f1] (fun k => k ≠ w.heap.size + 1) (fun _ => False) rfl rfl ?aP (fun _ hk => hk.elim) ?aF ?aO ?aB ?aS ?aL ?_; (case aP => exact k43_mkM _ _ _ nx); (case aF => exact fun k hk => by have h_ := (Array.getElem?_eq_some_iff.1 HY3.out).1; omega); (case aO => exact HO3.out); (case aB => exact HB3.out); (case aS => exact HB3.out.size); (case aL => have h_ := HL.out; rw [h_]; omega); intro v1 w1 ho hb hg hat; have HO4 := Aside0.mk ho; have HB4 := Aside0.mk hb; have HY4 := Aside0.mk (blk_grown HY3.out hg (Kd.R_away HO3.out (fun _ hk => hk))); clear ho hb hg hat))
      rw [← HCS.out] at HO4
      go_roundg (s.size - (i + 1))
      case measure => omega
      case rel => exact ⟨i + 1, by omega, by omega, by go_num, HO4, HB4, HY4⟩
    · have hltz : ¬ (i : Int) < (s.size : Int) := by omega
      have hie : i = s.size := by omega
      subst hie
      have hall : s.data.toList.take s.size = s.data.toList := by rw [← hsz, List.take_length]
      rw [hall] at HO ⊢
      go_wp2_with fail
      go_ret
      exact ⟨_, rfl, Kd.R_mono HO.out (fun _ _ => trivial), HB.out⟩
def impl_walk.f (a0 : ByteArray) : Option (List S43) := if a0.size ≤ 1000 then some (cornersL a0.data.toList) else none
theorem impl_walk.calls (a0 : ByteArray) (r : List S43) (w : World) (h : impl_walk.f a0 = some r) :
    Calls Try.prog 39 #[.string a0] w fun e w' => ∃ v0_ : Value, e = .returned v0_ ∧ Kd.R k43 43 w' w.heap.size (fun _ => True) v0_ r ∧ Below w.heap.size w w' := by
  unfold impl_walk.f at h
  split at h
  · rename_i h0
    obtain rfl := Option.some.inj h
    exact walk_any a0 h0 w
  · cases h

end Go.Proofs.Ytbnkdfmomcmmaaa.P


namespace Go.Proofs.Ytbnkdfmomcmmaaa.P
open Go.RowKit Go.Proofs.YtbnkdfmomcmmaaaW.PrintWords Go.Proofs.YtbnkdfmomcmmaaaW.PrintLast Go.Proofs.YtbnkdfmomcmmaaaW.PrintMore
attribute [local go_sem] max2_int min2_int max_two min_two max_three min_three max_four min_four   -- for this text's walks alone
set_option linter.unusedVariables false
set_option linter.unusedSimpArgs false

def lowL (cs : List S43) : Nat → S43
  | 0 => cs.getD 0 ⟨0, 0⟩
  | i + 1 => ⟨if (cs.getD i ⟨0, 0⟩).f0 < (lowL cs i).f0 then (cs.getD i ⟨0, 0⟩).f0 else (lowL cs i).f0, if (cs.getD i ⟨0, 0⟩).f1 < (lowL cs i).f1 then (cs.getD i ⟨0, 0⟩).f1 else (lowL cs i).f1⟩
def insP (S : List (Int × Int)) (p : Int × Int) : List (Int × Int) := if p ∈ S then S else p :: S
def upsL (cs : List S43) (lo : S43) : Nat → List (Int × Int)
  | 0 => []
  | k + 1 => if (cs.getD k ⟨0, 0⟩).f0 = (cs.getD (k + 1) ⟨0, 0⟩).f0 then insP (upsL cs lo k) ((cs.getD k ⟨0, 0⟩).f0 - lo.f0, (if (cs.getD (k + 1) ⟨0, 0⟩).f1 < (cs.getD k ⟨0, 0⟩).f1 then (cs.getD (k + 1) ⟨0, 0⟩).f1 else (cs.getD k ⟨0, 0⟩).f1) - lo.f1) else upsL cs lo k
def scanL (S : List (Int × Int)) (y : Nat) : Nat → Bool × List S43
  | 0 => (false, [])
  | x + 1 => (if ((x : Int), (y : Int)) ∈ S then !(scanL S y x).1 else (scanL S y x).1, if (if ((x : Int), (y : Int)) ∈ S then !(scanL S y x).1 else (scanL S y x).1) then (scanL S y x).2 ++ [⟨x, y⟩] else (scanL S y x).2)
def rowsL (S : List (Int × Int)) : Nat → List S43
  | 0 => []
  | y + 1 => rowsL S y ++ (scanL S y 40).2
def cellsW (l : List UInt8) : List S43 := rowsL (upsL (cornersL l) (lowL (cornersL l) (l.length + 1)) l.length) 40
theorem getD_bd (cs : List S43) (h : ∀ d ∈ cs, (-1000 ≤ d.f0 ∧ d.f0 ≤ 1000) ∧ (-1000 ≤ d.f1 ∧ d.f1 ≤ 1000)) (i : Nat) : (-1000 ≤ (cs.getD i ⟨0, 0⟩).f0 ∧ (cs.getD i ⟨0, 0⟩).f0 ≤ 1000) ∧ (-1000 ≤ (cs.getD i ⟨0, 0⟩).f1 ∧ (cs.getD i ⟨0, 0⟩).f1 ≤ 1000) := by
  by_cases hi : i < cs.length
  · rw [List.getD_eq_getElem?_getD, List.getElem?_eq_getElem hi]
    exact h _ (List.getElem_mem hi)
  · rw [List.getD_eq_getElem?_getD, List.getElem?_eq_none (by omega)]
    simp
theorem lowL_bd (cs : List S43) (h : ∀ d ∈ cs, (-1000 ≤ d.f0 ∧ d.f0 ≤ 1000) ∧ (-1000 ≤ d.f1 ∧ d.f1 ≤ 1000)) : ∀ i, (-1000 ≤ (lowL cs i).f0 ∧ (lowL cs i).f0 ≤ 1000) ∧ (-1000 ≤ (lowL cs i).f1 ∧ (lowL cs i).f1 ≤ 1000)
  | 0 => getD_bd cs h 0
  | i + 1 => by
    have h1 := getD_bd cs h i
    have h2 := lowL_bd cs h i
    show (-1000 ≤ (if _ then _ else _) ∧ (if _ then _ else _) ≤ (1000 : Int)) ∧ (-1000 ≤ (if _ then _ else _) ∧ (if _ then _ else _) ≤ (1000 : Int))
    generalize cs.getD i ⟨0, 0⟩ = a at h1 ⊢
    generalize lowL cs i = b at h2 ⊢
    refine ⟨⟨?_, ?_⟩, ⟨?_, ?_⟩⟩ <;> split <;> omega
theorem insP_len (S : List (Int × Int)) (p : Int × Int) : (insP S p).length ≤ S.length + 1 := by
  unfold insP
  split
  · omega
  · rw [List.length_cons]; omega
theorem upsL_len (cs : List S43) (lo : S43) : ∀ k, (upsL cs lo k).length ≤ k
  | 0 => Nat.le_refl _
  | k + 1 => by
    have h := upsL_len cs lo k
    unfold upsL
    split
    · exact Nat.le_trans (insP_len _ _) (by omega)
    · omega
theorem R_zeroC (w : World) (base : Nat) (hb : base ≤ w.heap.size) : Kd.R k43 43 (w.alloc (.cells #[] 43)) base (fun k => w.heap.size ≤ k) (.slice (some ⟨w.heap.size, 0, none⟩) 0 0) [] := by
  refine ⟨fun k hk => ?_, [], ?_, ?_⟩
  · simp [Value.ownBlock] at hk
    omega
  · have h := World.ownsRow_lit (base := base) (e := 43) (size := 2) w #[] 0 hb (by simp [maxLen]) (by simp)
    have h2 : (w.alloc (.cells #[] 43)).ownsRow base 43 2 (.slice (some ⟨w.heap.size, 0, none⟩) 0 0) 0 [] := by simpa using h
    exact h2
  · exact ⟨rfl, fun j p hj => by simp at hj⟩
theorem scanL_len (S : List (Int × Int)) (y : Nat) : ∀ x, (scanL S y x).2.length ≤ x
  | 0 => Nat.le_refl _
  | x + 1 => by
    have h := scanL_len S y x
    have h2 : (scanL S y (x + 1)).2 = (scanL S y x).2 ∨ (scanL S y (x + 1)).2 = (scanL S y x).2 ++ [⟨x, y⟩] := by
      rw [scanL]
      dsimp only
      split <;> split <;> simp
    rcases h2 with h2 | h2 <;> rw [h2]
    · omega
    · rw [List.length_append, List.length_singleton]; omega
theorem rowsL_suc (S : List (Int × Int)) (y : Nat) : rowsL S (y + 1) = rowsL S y ++ (scanL S y 40).2 := by rw [rowsL]
theorem rowsL_len (S : List (Int × Int)) : ∀ y, (rowsL S y).length ≤ 40 * y
  | 0 => Nat.le_refl _
  | y + 1 => by
    have h := rowsL_len S y
    have h2 := scanL_len S y 40
    unfold rowsL
    rw [List.length_append]
    omega
def cellsT12 : Bool × List (List Nat × List Nat) := (true, [([], []), ([], []), ([0, 1], [0, 1]), ([2], [2]), ([], []), ([], []), ([5], [5]), ([4, 6], [4, 6]), ([7], [7]), ([], []), ([], []), ([9, 3, 0, 1, 2, 3, 9, 10], [3, 9]), ([10, 8, 11, 0, 1, 2, 3, 4, 5, 6, 7, 8, 9, 10, 11], [8, 10])])
def cellsB12 : List Nat := [0, 0, 3, 7, 0, 0, 32, 112, 240, 0, 0, 1551, 4095]
theorem cells_tab12 : rtab .any (opsOf Try.f25 12) = cellsT12 := by kernel_rfl
theorem cells_bits12 : waitsOk cellsT12.2 cellsB12 = true := by kernel_rfl
set_option maxRecDepth 100000 in
set_option maxHeartbeats 2000000 in
theorem cells_any (s : ByteArray) (hs40 : s.size ≤ 40) (w : World) :
    Calls Try.prog 25 #[.string s] w fun e w' => ∃ v, e = .returned v ∧ Kd.R k43 43 w' w.heap.size (fun _ => True) v (cellsW s.data.toList) ∧ Below w.heap.size w w' := by
  have hmm := @run_makeMap Try.prog
  have HK := Aside0.mk (show impl_walk.f s = some (cornersL s.data.toList) from by unfold impl_walk.f; rw [if_pos (by omega)])
  have hlen : (cornersL s.data.toList).length = s.size + 1 := by rw [cornersL_len]; simp
  have hn : s.data.toList.length = s.size := by simp
  have HBd := Aside0.mk (cornersL_bound s.data.toList (by rw [hn]; omega))
  unfold cellsW
  rw [hn]
  generalize cornersL s.data.toList = cs at hlen HK HBd ⊢
  clear hn
  go_enter Try.func25, Try.ntmps25
  go_wp2_with (first
    | (go_at_call 39; refine (impl_walk.calls s _ _ HK.out).mono ?_; rintro e w3 ⟨v, rfl, ho, hb3⟩; obtain ⟨A, c, rfl⟩ := Kd.R_slice ho; have HO := Aside0.mk ho; clear ho; obtain ⟨ad, rfl, hz1, hz2⟩ := at_T43 (Kd.R_reads' HO.out).2.2 0 (by omega) (by rw [hlen]; omega); have hrd : rd_T43 cs 0 = cs.getD 0 ⟨0, 0⟩ := rfl; rw [hrd] at hz1 hz2; (rw [show ((0 : Int)).toNat = 0 from rfl, show 0 * 2 = 0 from rfl, Addr.add_zero'] at hz1 hz2); rw [hlen] at HO ⊢; have HB3 := Aside0.mk hb3; generalize hc0 : cs.getD 0 ⟨0, 0⟩ = c0 at hz1 hz2; have HC0 := Aside0.mk hc0; clear hb3 hrd hc0)
    | ((with_reducible refine gate_dst (N := 4) rfl ?_); refine box_event ?hg (N := 4) ?hd (cs := #[.int .i64 0, .int .i64 0]) (t := 43) ?hr ?_; (case hd => rfl); (case hg => rfl); (case hr => first | (go_simp; done) | (go_simp; rfl)); intro bl hg w4 hbox hb; have HB4 := Aside0.mk (below_step (by first | exact HB3.out | exact pw_below_drewN HB3.out _) hb); have HO4 : Aside0 (Kd.R k43 43 w4 w.heap.size (fun k => k < bl) (.slice (some ad) (s.size + 1) c) cs) := ⟨Kd.R_below (Kd.R_mono (Kd.R_bound HO.out) (fun k hk => by have := hk.2.2.1; omega)) hb⟩; have BL := Aside0.mk hbox; have GL := Aside0.mk (show w.heap.size ≤ bl by have := HB3.out.size; rw [hg]; exact this); have hs4 : w4.cell? ⟨bl, 0, none⟩ = some (.int .i64 0) := (blk_cell hbox 0).trans rfl; have hf4 := blk_frozen hbox 0; have hs5 : w4.cell? ⟨bl, 1, none⟩ = some (.int .i64 0) := (blk_cell hbox 1).trans rfl; have hf5 := blk_frozen hbox 1; clear hg hb hbox))
  go_loopg [22] (s.size + 1) (fun gg u22 wr => ∃ i : Nat, i ≤ s.size + 1 ∧ s.size + 1 - i ≤ gg ∧ u22 = .int .i64 i ∧ Aside0 (wr.heap[bl]? = some (.cells #[.int .i64 (lowL cs i).f0, .int .i64 (lowL cs i).f1] 43 (0, 0))) ∧ Aside0 (Kd.R k43 43 wr w.heap.size (fun k => k < bl) (.slice (some ad) (s.size + 1) c) cs) ∧ Aside0 (Below w.heap.size w wr))
  case atStart =>
    have hl0 : lowL cs 0 = c0 := HC0.out
    exact ⟨0, Nat.zero_le _, by omega, rfl, ⟨by rw [hl0]; exact blk_put (cs := #[.int .i64 c0.f0, .int .i64 0]) (blk_put (cs := #[.int .i64 0, .int .i64 0]) BL.out 0 _ rfl) 1 _ rfl⟩, ⟨Kd.R_far (Kd.R_far HO4.out (fun k hk => by simp; omega) _) (fun k hk => by simp; omega) _⟩, ⟨below_set (below_set HB4.out GL.out) GL.out⟩⟩
  case round =>
    clear BL HO4 HB4 hs4 hf4 hs5 hf5
    obtain ⟨i, hi, hgg, rfl, BL, HO, HB⟩ := hrel
    by_cases hlt : i < s.size + 1
    · have hltz : (i : Int) < ((s.size + 1 : Nat) : Int) := by omega
      obtain ⟨ad', he', hx1, hx2⟩ := at_T43 (Kd.R_reads' HO.out).2.2 (i : Int) (by omega) (by rw [hlen]; omega)
      cases he'
      have hrc : rd_T43 cs (i : Int) = cs.getD i ⟨0, 0⟩ := by unfold rd_T43; rw [Int.toNat_natCast]; rfl
      rw [hrc, Int.toNat_natCast] at hx1 hx2
      have hsuc : lowL cs (i + 1) = ⟨if (cs.getD i ⟨0, 0⟩).f0 < (lowL cs i).f0 then (cs.getD i ⟨0, 0⟩).f0 else (lowL cs i).f0, if (cs.getD i ⟨0, 0⟩).f1 < (lowL cs i).f1 then (cs.getD i ⟨0, 0⟩).f1 else (lowL cs i).f1⟩ := rfl
      generalize cs.getD i ⟨0, 0⟩ = ce at hx1 hx2 hsuc
      generalize lowL cs i = lo at BL hsuc
      generalize hq0 : (if ce.f0 < lo.f0 then ce.f0 else lo.f0) = q0 at hsuc
      generalize hq1 : (if ce.f1 < lo.f1 then ce.f1 else lo.f1) = q1 at hsuc
      have HS := Aside0.mk hsuc
      clear hsuc hrc
      go_wp2_with (first
        | ((with_reducible refine gate_dst (N := 6) rfl ?_); refine box_event ?hg (N := 6) ?hd (cs := #[.int .i64 0, .int .i64 0]) (t := 43) ?hr ?_; (case hd => rfl); (case hg => rfl); (case hr => first | (go_simp; done) | (go_simp; rfl)); intro b6 hg w6 hbox hb; have HB6 := Aside0.mk (below_step (by first | exact HB.out | exact pw_below_drewN HB.out _) hb); have HO6 := Aside0.mk (Kd.R_below HO.out hb); have BL6 := Aside0.mk (blk_below BL.out hb); have hne := Nat.ne_of_lt (show bl < b6 by rw [hg]; exact blk_lt BL.out); have hne2 := hne.symm; have h60 : w6.cell? ⟨b6, 0, none⟩ = some (.int .i64 0) := (blk_cell hbox 0).trans rfl; have hf60 := blk_frozen hbox 0; have h61 : w6.cell? ⟨b6, 1, none⟩ = some (.int .i64 0) := (blk_cell hbox 1).trans rfl; have hf61 := blk_frozen hbox 1; have hl0 : w6.cell? ⟨bl, 0, none⟩ = some (.int .i64 lo.f0) := (blk_cell BL6.out 0).trans rfl; have hfl0 := blk_frozen BL6.out 0; have hl1 : w6.cell? ⟨bl, 1, none⟩ = some (.int .i64 lo.f1) := (blk_cell BL6.out 1).trans rfl; have hfl1 := blk_frozen BL6.out 1; have hG6 := Aside0.mk (show bl < b6 by rw [hg]; exact blk_lt BL.out); clear hg hb hbox))
      go_roundg (s.size + 1 - (i + 1))
      case measure => omega
      case rel => exact ⟨i + 1, by omega, by omega, by go_num, ⟨by rw [HS.out]; exact blk_put (cs := #[.int .i64 q0, .int .i64 lo.f1]) (blk_put (cs := #[.int .i64 lo.f0, .int .i64 lo.f1]) (blk_far (blk_far BL6.out hne _) hne _) 0 _ rfl) 1 _ rfl⟩, ⟨Kd.R_far (Kd.R_far (Kd.R_far (Kd.R_far HO6.out (fun k hk => by have := hG6.out; simp; omega) _) (fun k hk => by have := hG6.out; simp; omega) _) (fun k hk => by simp; omega) _) (fun k hk => by simp; omega) _⟩, ⟨below_set (below_set (below_set (below_set HB6.out (Nat.le_trans GL.out (Nat.le_of_lt hG6.out))) (Nat.le_trans GL.out (Nat.le_of_lt hG6.out))) GL.out) GL.out⟩⟩
    · have hltz : ¬ (i : Int) < ((s.size + 1 : Nat) : Int) := by omega
      have hie : i = s.size + 1 := by omega
      subst hie
      have HLo := Aside0.mk (lowL_bd cs HBd.out (s.size + 1))
      have HLoE : ∃ lo, lowL cs (s.size + 1) = lo := ⟨_, rfl⟩
      obtain ⟨lo, hLoE⟩ := HLoE
      have HLoE := Aside0.mk hLoE
      rw [hLoE] at BL HLo
      clear hLoE
      go_wp2_with fail
      have HM0 : Aside0 (MapIs (wr.alloc (.map #[] 0)) Try.prog 43 wr.heap.size 0 cornV (inP [])) := ⟨(MapIs.made wr Try.prog 43 cornV).congr (fun c kl _ => by unfold inP; simp)⟩
      have HB0 : Aside0 (Below w.heap.size w (wr.alloc (.map #[] 0))) := ⟨below_alloc HB.out _⟩
      have HO0 := Aside0.mk (Kd.R_alloc HO.out (.map #[] 0))
      have BL0 := Aside0.mk (blk_alloc BL.out (.map #[] 0))
      have GM : Aside0 (bl < wr.heap.size) := ⟨blk_lt BL.out⟩
      clear HB HO BL hmm
      generalize wr.heap.size = bm at HM0 GM ⊢
      generalize wr.alloc (.map #[] 0) = W0 at HM0 HB0 HO0 BL0 ⊢
      go_loopg [41] s.size (fun gg u41 wr => ∃ i : Nat, i ≤ s.size ∧ s.size - i ≤ gg ∧ u41 = .int .i64 i ∧ Aside0 (MapIs wr Try.prog 43 bm (upsL cs lo i).length cornV (inP (upsL cs lo i))) ∧ Aside0 (wr.heap[bl]? = some (.cells #[.int .i64 lo.f0, .int .i64 lo.f1] 43 (0, 0))) ∧ Aside0 (Kd.R k43 43 wr w.heap.size (fun k => k < bl) (.slice (some ad) (s.size + 1) c) cs) ∧ Aside0 (Below w.heap.size w wr))
      case atStart => exact ⟨0, Nat.zero_le _, by omega, rfl, HM0, BL0, HO0, HB0⟩
      case round =>
        clear HM0 BL0 HO0 HB0
        obtain ⟨k, hk, hgg, rfl, HM, BL, HO, HB⟩ := hrel
        by_cases hlt : k < s.size
        · have hltz : (k : Int) < (s.size : Int) := by omega
          obtain ⟨ad', he', hx1, hx2⟩ := at_T43 (Kd.R_reads' HO.out).2.2 (k : Int) (by omega) (by rw [hlen]; omega)
          cases he'
          obtain ⟨ad', he', hy1, hy2⟩ := at_T43 (Kd.R_reads' HO.out).2.2 ((k + 1 : Nat) : Int) (by omega) (by rw [hlen]; omega)
          cases he'
          have hrc : ∀ j : Nat, rd_T43 cs (j : Int) = cs.getD j ⟨0, 0⟩ := fun j => by unfold rd_T43; rw [Int.toNat_natCast]; rfl
          rw [hrc, Int.toNat_natCast] at hx1 hx2 hy1 hy2
          have hkz : ((k : Int) < (s.size : Int) + 1) = True := eq_true (by omega)
          have hk0 : ((0 : Int) ≤ (k : Int) + 1) = True := eq_true (by omega)
          have hk1 : wrap64 ((k : Int) + 1) = ((k + 1 : Nat) : Int) := by unfold wrap64; omega
          have HU : Aside0 (upsL cs lo (k + 1) = if (cs.getD k ⟨0, 0⟩).f0 = (cs.getD (k + 1) ⟨0, 0⟩).f0 then insP (upsL cs lo k) ((cs.getD k ⟨0, 0⟩).f0 - lo.f0, (if (cs.getD (k + 1) ⟨0, 0⟩).f1 < (cs.getD k ⟨0, 0⟩).f1 then (cs.getD (k + 1) ⟨0, 0⟩).f1 else (cs.getD k ⟨0, 0⟩).f1) - lo.f1) else upsL cs lo k) := ⟨rfl⟩
          have HCb := Aside0.mk (getD_bd cs HBd.out (k + 1))
          have HCa := Aside0.mk (getD_bd cs HBd.out k)
          generalize cs.getD (k + 1) ⟨0, 0⟩ = cb at HU HCb hx1 hx2 hy1 hy2 ⊢
          generalize hca : cs.getD k ⟨0, 0⟩ = ca at HU HCa hx1 hx2 hy1 hy2 ⊢
          go_wp2_with fail
          have hx1 : wr.drew.cell? (ad.add (k * 2)) = some (.int .i64 ca.f0) := hx1
          have hx2 : wr.drew.cell? ⟨(ad.add (k * 2)).block, (ad.add (k * 2)).off + 1, none⟩ = some (.int .i64 ca.f1) := hx2
          have hy1 : wr.drew.cell? (ad.add ((k + 1) * 2)) = some (.int .i64 cb.f0) := hy1
          have hy2 : wr.drew.cell? ⟨(ad.add ((k + 1) * 2)).block, (ad.add ((k + 1) * 2)).off + 1, none⟩ = some (.int .i64 cb.f1) := hy2
          have HM2 := Aside0.mk (HM.out.below (below_drew (Below.refl _ _)))
          have BL2 := Aside0.mk (blk_drew BL.out)
          have HO2 := Aside0.mk (Kd.R_drew HO.out)
          have HB2 := Aside0.mk (below_drew1 HB.out)
          clear HM BL HO HB
          refine start_ (n := 13) (S := fun w' => w'.cell? (ad.add (k * 2)) = some (.int .i64 ca.f0) ∧ w'.cell? ⟨(ad.add (k * 2)).block, (ad.add (k * 2)).off + 1, none⟩ = some (.int .i64 ca.f1) ∧ w'.cell? (ad.add ((k + 1) * 2)) = some (.int .i64 cb.f0) ∧ w'.cell? ⟨(ad.add ((k + 1) * 2)).block, (ad.add ((k + 1) * 2)).off + 1, none⟩ = some (.int .i64 cb.f1)) (ds := []) #[Ff, Ff, Ff, Ff, Ff, Ff, Ff, Ff, Ff, Ff, Ff, Ff, Ff] (by kernel_rfl) rfl rfl ⟨hx1, hx2, hy1, hy2⟩ (fun hHeld => ?_)
          refine with_tabW cells_tab12 cells_bits12 (fun HT_ HW_ => ?_)
          generalize wr.drew = W5 at HM2 BL2 HO2 HB2 hx1 hx2 hy1 hy2 hHeld ⊢
          have hS : ∀ w', Below W5.heap.size W5 w' → w'.cell? (ad.add (k * 2)) = some (.int .i64 ca.f0) ∧ w'.cell? ⟨(ad.add (k * 2)).block, (ad.add (k * 2)).off + 1, none⟩ = some (.int .i64 ca.f1) ∧ w'.cell? (ad.add ((k + 1) * 2)) = some (.int .i64 cb.f0) ∧ w'.cell? ⟨(ad.add ((k + 1) * 2)).block, (ad.add ((k + 1) * 2)).off + 1, none⟩ = some (.int .i64 cb.f1) := fun w' hb => ⟨(hb.cell (World.block_lt_of_cell? W5 _ hx1)).trans hx1, (hb.cell (World.block_lt_of_cell? W5 _ hx2)).trans hx2, (hb.cell (World.block_lt_of_cell? W5 _ hy1)).trans hy1, (hb.cell (World.block_lt_of_cell? W5 _ hy2)).trans hy2⟩
          refine pZ (i := 0) (N := some 44) #[Tt, Ff, Ff, Ff, Ff, Ff, Ff, Ff, Ff, Ff, Ff, Ff, Ff] ?_
          refine pZ (i := 1) (N := some 45) #[Tt, Tt, Ff, Ff, Ff, Ff, Ff, Ff, Ff, Ff, Ff, Ff, Ff] ?_
          refine pZ (i := 2) (N := some 46) #[Tt, Tt, Tt, Ff, Ff, Ff, Ff, Ff, Ff, Ff, Ff, Ff, Ff] ?_
          refine pZ (i := 4) (N := some 48) #[Tt, Tt, Tt, Ff, Tt, Ff, Ff, Ff, Ff, Ff, Ff, Ff, Ff] ?_
          refine pZ (i := 5) (N := some 49) #[Tt, Tt, Tt, Ff, Tt, Tt, Ff, Ff, Ff, Ff, Ff, Ff, Ff] ?_
          refine pZ (i := 6) (N := some 50) #[Tt, Tt, Tt, Ff, Tt, Tt, Tt, Ff, Ff, Ff, Ff, Ff, Ff] ?_
          refine pZ (i := 7) (N := some 51) #[Tt, Tt, Tt, Ff, Tt, Tt, Tt, Tt, Ff, Ff, Ff, Ff, Ff] ?_
          refine tZ (i := 3) (N := some 47) #[Tt, Tt, Tt, Tt, Tt, Tt, Tt, Tt, Ff, Ff, Ff, Ff, Ff] ?_
          refine tZ (i := 8) (N := some 52) #[Tt, Tt, Tt, Tt, Tt, Tt, Tt, Tt, Tt, Ff, Ff, Ff, Ff] ?_
          refine join_ (σ := Nat × Nat) 2 #[Tt, Tt, Tt, Tt, Tt, Tt, Tt, Tt, Tt, Tt, Tt, Ff, Ff] (fun s_ => [(9, .pointer (some ⟨s_.1, 0, none⟩)), (10, .pointer (some ⟨s_.2, 0, none⟩))]) (fun s_ w' => Below W5.heap.size W5 w' ∧ w'.heap[s_.1]? = some (.cells #[.int .i64 0, .int .i64 0] 43 (0, 0)) ∧ w'.heap[s_.2]? = some (.cells #[.int .i64 0, .int .i64 0] 43 (0, 0)) ∧ W5.heap.size ≤ s_.1 ∧ W5.heap.size ≤ s_.2 ∧ s_.1 ≠ s_.2) ?_ ?_
          rotate_left
          · intro hCont
            refine two_ (i := 9) (j := 10) (Ni := some 9) (Nj := some 10) #[Tt, Tt, Tt, Tt, Tt, Tt, Tt, Tt, Tt, Tt, Ff, Ff, Ff] #[Tt, Tt, Tt, Tt, Tt, Tt, Tt, Tt, Tt, Ff, Tt, Ff, Ff] rfl rfl rfl rfl (two_of HT_.out (by kernel_rfl)) (by decide) (by decide) (fun K hK => ?_) (fun K hK => ?_)
            · refine box_step ?hg (N := 9) ?hd (cs := #[.int .i64 0, .int .i64 0]) (t := 43) ?hr ?_; (case hd => rfl); (case hg => rfl); (case hr => first | (go_simp; done) | (go_simp; rfl))
              intro b9 hg w6 hbox hb
              have hg : W5.heap.size ≤ b9 := by rw [hg]; exact Nat.le_refl _
              refine hK.out _ _ (hS _ hb) (fun hHeld => ?_)
              clear hK K
              refine norm_ (a' := _) (by show Act.put _ (some 9) _ = _; simp only [Act.put, List.setIfInBounds_toArray, List.set_cons_zero, List.set_cons_succ, i64_w, i32_w]; rfl) ?_
              refine one_ (i := 10) (N := some 10) #[Tt, Tt, Tt, Tt, Tt, Tt, Tt, Tt, Tt, Tt, Tt, Ff, Ff] rfl rfl (one_of HT_.out (by kernel_rfl)) (by decide) (fun K hK => ?_)
              refine box_step ?hg (N := 10) ?hd (cs := #[.int .i64 0, .int .i64 0]) (t := 43) ?hr ?_; (case hd => rfl); (case hg => rfl); (case hr => first | (go_simp; done) | (go_simp; rfl))
              intro b10 hg2 w7 hbox2 hb2
              have hne : b9 < b10 := by rw [hg2]; exact blk_lt hbox
              have hb3 := below_step hb hb2
              refine hK.out _ _ (hS _ hb3) (fun hHeld => ?_)
              clear hK K
              refine norm_ (a' := _) (by show Act.put _ (some 10) _ = _; simp only [Act.put, List.setIfInBounds_toArray, List.set_cons_zero, List.set_cons_succ, i64_w, i32_w]; rfl) ?_
              exact norm_ (by simp only [putAll, Act.put, List.setIfInBounds_toArray, List.set_cons_zero, List.set_cons_succ]) (hCont (b9, b10) _ ⟨hb3, (blk_below hbox hb2), hbox2, hg, (Nat.le_trans hg (Nat.le_of_lt hne)), Nat.ne_of_lt hne⟩)
            · refine box_step ?hg (N := 10) ?hd (cs := #[.int .i64 0, .int .i64 0]) (t := 43) ?hr ?_; (case hd => rfl); (case hg => rfl); (case hr => first | (go_simp; done) | (go_simp; rfl))
              intro b10 hg w6 hbox hb
              have hg : W5.heap.size ≤ b10 := by rw [hg]; exact Nat.le_refl _
              refine hK.out _ _ (hS _ hb) (fun hHeld => ?_)
              clear hK K
              refine norm_ (a' := _) (by show Act.put _ (some 10) _ = _; simp only [Act.put, List.setIfInBounds_toArray, List.set_cons_zero, List.set_cons_succ, i64_w, i32_w]; rfl) ?_
              refine one_ (i := 9) (N := some 9) #[Tt, Tt, Tt, Tt, Tt, Tt, Tt, Tt, Tt, Tt, Tt, Ff, Ff] rfl rfl (one_of HT_.out (by kernel_rfl)) (by decide) (fun K hK => ?_)
              refine box_step ?hg (N := 9) ?hd (cs := #[.int .i64 0, .int .i64 0]) (t := 43) ?hr ?_; (case hd => rfl); (case hg => rfl); (case hr => first | (go_simp; done) | (go_simp; rfl))
              intro b9 hg2 w7 hbox2 hb2
              have hne : b10 < b9 := by rw [hg2]; exact blk_lt hbox
              have hb3 := below_step hb hb2
              refine hK.out _ _ (hS _ hb3) (fun hHeld => ?_)
              clear hK K
              refine norm_ (a' := _) (by show Act.put _ (some 9) _ = _; simp only [Act.put, List.setIfInBounds_toArray, List.set_cons_zero, List.set_cons_succ, i64_w, i32_w]; rfl) ?_
              exact norm_ (by simp only [putAll, Act.put, List.setIfInBounds_toArray, List.set_cons_zero, List.set_cons_succ]) (hCont (b9, b10) _ ⟨hb3, hbox2, (blk_below hbox hb2), (Nat.le_trans hg (Nat.le_of_lt hne)), hg, Nat.ne_of_gt hne⟩)
          rintro ⟨b9, b10⟩ w8 ⟨hb8, h9, h10, g9, g10, hne⟩
          have hHeld := hS w8 hb8
          refine norm_ (a' := ?_) ?_ ?_
          rotate_left
          · simp only [putAll, Act.put, List.setIfInBounds_toArray, List.set_cons_zero, List.set_cons_succ]
            rfl
          have hne2 := hne.symm
          have hs90 : w8.cell? ⟨b9, 0, none⟩ = some (.int .i64 0) := (blk_cell h9 0).trans rfl
          have hs91 : w8.cell? ⟨b9, 1, none⟩ = some (.int .i64 0) := (blk_cell h9 1).trans rfl
          have hf90 := blk_frozen h9 0
          have hf91 := blk_frozen h9 1
          have hs100 : w8.cell? ⟨b10, 0, none⟩ = some (.int .i64 0) := (blk_cell h10 0).trans rfl
          have hs101 : w8.cell? ⟨b10, 1, none⟩ = some (.int .i64 0) := (blk_cell h10 1).trans rfl
          have hf100 := blk_frozen h10 0
          have hf101 := blk_frozen h10 1
          refine one_ (i := 11) (N := none) #[Tt, Tt, Tt, Tt, Tt, Tt, Tt, Tt, Tt, Tt, Tt, Tt, Ff] rfl rfl (one_of HT_.out (by kernel_rfl)) (by decide) (fun K hK => ?_)
          refine skip_ (w1 := ?_) (by rfl) rfl ?_ ?_
          rotate_left
          · go_simp
            rfl
          refine hK.out _ _ (hS _ (below_set (below_set hb8 g9) g9)) (fun hHeld => ?_)
          clear hK K
          refine one_ (i := 12) (N := none) #[Tt, Tt, Tt, Tt, Tt, Tt, Tt, Tt, Tt, Tt, Tt, Tt, Tt] rfl rfl (one_of HT_.out (by kernel_rfl)) (by decide) (fun K hK => ?_)
          refine skip_ (w1 := ?_) (by rfl) rfl ?_ ?_
          rotate_left
          · go_simp
            rfl
          refine hK.out _ _ (hS _ (below_set (below_set (below_set (below_set hb8 g9) g9) g10) g10)) (fun hHeld => ?_)
          clear hK K
          refine done_ (done_of HT_.out (by kernel_rfl)) ?_
          have hb9 := below_set (j := 1) (v := .int .i64 cb.f1) (below_set (j := 0) (v := .int .i64 cb.f0) (below_set (j := 1) (v := .int .i64 ca.f1) (below_set (j := 0) (v := .int .i64 ca.f0) hb8 g9) g9) g10) g10
          generalize hW9 : (((w8.setCell ⟨b9, 0, none⟩ (.int .i64 ca.f0)).setCell ⟨b9, 1, none⟩ (.int .i64 ca.f1)).setCell ⟨b10, 0, none⟩ (.int .i64 cb.f0)).setCell ⟨b10, 1, none⟩ (.int .i64 cb.f1) = W9 at hb9 ⊢
          have K9 : W9.heap[b9]? = some (.cells #[.int .i64 ca.f0, .int .i64 ca.f1] 43 (0, 0)) := by rw [← hW9]; exact blk_far (blk_far (blk_put (cs := #[.int .i64 ca.f0, .int .i64 0]) (blk_put (cs := #[.int .i64 0, .int .i64 0]) h9 0 _ rfl) 1 _ rfl) hne _) hne _
          have K10 : W9.heap[b10]? = some (.cells #[.int .i64 cb.f0, .int .i64 cb.f1] 43 (0, 0)) := by rw [← hW9]; exact blk_put (cs := #[.int .i64 cb.f0, .int .i64 0]) (blk_put (cs := #[.int .i64 0, .int .i64 0]) (blk_far (blk_far h10 hne2 _) hne2 _) 0 _ rfl) 1 _ rfl
          have HB9 := Aside0.mk (below_step HB2.out hb9)
          have HO9 := Aside0.mk (Kd.R_below HO2.out hb9)
          have BL9 := Aside0.mk (blk_below BL2.out hb9)
          have HM9 := Aside0.mk (HM2.out.below hb9)
          have hd0 : W9.cell? ⟨b9, 0, none⟩ = some (.int .i64 ca.f0) := (blk_cell K9 0).trans rfl
          have hd1 : W9.cell? ⟨b9, 1, none⟩ = some (.int .i64 ca.f1) := (blk_cell K9 1).trans rfl
          have hd2 : W9.cell? ⟨b10, 0, none⟩ = some (.int .i64 cb.f0) := (blk_cell K10 0).trans rfl
          have hd3 : W9.cell? ⟨b10, 1, none⟩ = some (.int .i64 cb.f1) := (blk_cell K10 1).trans rfl
          have hd4 : W9.cell? ⟨bl, 0, none⟩ = some (.int .i64 lo.f0) := (blk_cell BL9.out 0).trans rfl
          have hd5 : W9.cell? ⟨bl, 1, none⟩ = some (.int .i64 lo.f1) := (blk_cell BL9.out 1).trans rfl
          clear hW9 K9 K10 hs90 hs91 hf90 hf91 hs100 hs101 hf100 hf101 hb8 h9 h10 hHeld HT_ HW_ hS hx1 hx2 hy1 hy2 HM2 BL2 HO2 HB2 hb9
          by_cases heq : ca.f0 = cb.f0
          · have heqb : (ca.f0 == cb.f0) = true := by rw [heq]; exact beq_self_eq_true _
            generalize hq : (if cb.f1 < ca.f1 then cb.f1 else ca.f1) = q at HU
            have hqb : -1000 ≤ q ∧ q ≤ 1000 := by have h1 := HCa.out; have h2 := HCb.out; rw [← hq]; constructor <;> split <;> omega
            have hx0 : -2000 ≤ ca.f0 - lo.f0 ∧ ca.f0 - lo.f0 ≤ 2000 := by have h1 := HCa.out; have h2 := HLo.out; omega
            have hy0 : -2000 ≤ q - lo.f1 ∧ q - lo.f1 ≤ 2000 := by have h2 := HLo.out; omega
            generalize hX : ca.f0 - lo.f0 = X at HU hx0
            generalize hY : q - lo.f1 = Y at HU hy0
            have e1 : wrap64 (ca.f0 - lo.f0) = X := by rw [hX]; unfold wrap64; omega
            have e2 : wrap64 (q - lo.f1) = Y := by rw [hY]; unfold wrap64; omega
            have hln := upsL_len cs lo k
            obtain ⟨wt, hst, hM2, ht⟩ := HM9.out.store cornKeyed Try.underlying45 (by unfold maxLen; omega) cornV_inj (cornKey X Y (i64_wf X (by omega) (by omega)) (i64_wf Y (by omega) (by omega))) (.bool true)
            have hst2 : (Instr.mapUpdate 45 (.map (some bm)) (.agg #[.int .i64 X, .int .i64 Y]) (.bool true)).run Try.prog W9 = .ok () wt := hst
            have HU2 : upsL cs lo (k + 1) = insP (upsL cs lo k) (X, Y) := by rw [HU.out, if_pos heq]
            have HMn : Aside0 (MapIs wt Try.prog 43 bm (upsL cs lo (k + 1)).length cornV (inP (upsL cs lo (k + 1)))) := ⟨by
              rw [HU2]
              unfold insP
              by_cases hin : (X, Y) ∈ upsL cs lo k
              · rw [if_pos hin]
                have e : (inP (upsL cs lo k) (X, Y)).isSome = true := by unfold inP; rw [if_pos hin]; rfl
                rw [e, if_pos rfl] at hM2
                exact hM2.congr (fun a kl _ => by unfold inP; by_cases ha : a = (X, Y) <;> simp [ha, hin])
              · rw [if_neg hin]
                have e : (inP (upsL cs lo k) (X, Y)).isSome = false := by unfold inP; rw [if_neg hin]; rfl
                rw [e, if_neg (by simp)] at hM2
                exact hM2.congr (fun a kl _ => by unfold inP; by_cases ha : a = (X, Y) <;> by_cases hb : a ∈ upsL cs lo k <;> simp [ha, hb])⟩
            have HOn := Aside0.mk (Kd.R_grown HO9.out ht.grown (fun k hk e => by have := GM.out; cases e; omega))
            have BLn := Aside0.mk (blk_grown BL9.out ht.grown (fun e => by have := GM.out; cases e; omega))
            have HBn : Aside0 (Below w.heap.size w wt) := ⟨((FrameBut.of_below (O := fun k => k = bm) HB9.out).turned ht (.inl rfl)).toBelow (Nat.le_refl _) (fun k hk e => by have h1 := GM.out; have h2 := GL.out; omega)⟩
            clear hst hM2 ht HM9 HO9 BL9 HB9 hqb hx0 hy0 hln HU2 HU hX hY heq
            go_wp2_with fail
            go_roundg (s.size - (k + 1))
            case measure => omega
            case rel => exact ⟨k + 1, by omega, by omega, by go_num, HMn, BLn, HOn, HBn⟩
          · have heqb : (ca.f0 == cb.f0) = false := by rw [beq_eq_false_iff_ne]; exact heq
            go_wp2_with fail
            go_roundg (s.size - (k + 1))
            case measure => omega
            case rel => exact ⟨k + 1, by omega, by omega, by go_num, ⟨by rw [HU.out, if_neg heq]; exact HM9.out⟩, BL9, HO9, HB9⟩
        · have hltz : ¬ (k : Int) < (s.size : Int) := by omega
          have hke : k = s.size := by omega
          subst hke
          have HUl := Aside0.mk (upsL_len cs lo s.size)
          obtain ⟨U, hUE⟩ : ∃ U, upsL cs lo s.size = U := ⟨_, rfl⟩
          have HUE := Aside0.mk hUE
          rw [hUE] at HM HUl
          clear hUE
          clear BL HLo HK HB3 hz1 hz2
          go_wp2_with fail
          have HO0 : Aside0 (Kd.R k43 43 (wr.alloc (.cells #[] 43)) w.heap.size (fun k => k ≠ bm) (.slice (some ⟨wr.heap.size, 0, none⟩) 0 0) (rowsL U 0)) := ⟨Kd.R_mono (R_zeroC wr _ HB.out.size) (fun k hk => by have := HM.out.lt; omega)⟩
          have HM0 := Aside0.mk (HM.out.alloc (.cells #[] 43))
          have HB0 := Aside0.mk (below_alloc HB.out (.cells #[] 43))
          clear HM HB HO
          generalize wr.heap.size = bo at HO0 ⊢
          generalize wr.alloc (.cells #[] 43) = W0 at HM0 HB0 HO0 ⊢
          go_loopg [11, 75] 40 (fun gg u11 u75 wr => ∃ y : Nat, y ≤ 40 ∧ 40 - y ≤ gg ∧ u75 = .int .i64 y ∧ Aside0 (MapIs wr Try.prog 43 bm U.length cornV (inP U)) ∧ Aside0 (Kd.R k43 43 wr w.heap.size (fun k => k ≠ bm) u11 (rowsL U y)) ∧ Aside0 (Below w.heap.size w wr))
          case atStart => exact ⟨0, Nat.zero_le _, by omega, rfl, HM0, HO0, HB0⟩
          case round =>
            clear HM0 HO0 HB0
            obtain ⟨y, hy, hgy, rfl, HM, HO, HB⟩ := hrel
            by_cases hlt : y < 40
            · have hltz : (y : Int) < 40 := by omega
              go_wp2_with fail
              have HO0 : Aside0 (Kd.R k43 43 wr w.heap.size (fun k => k ≠ bm) u11 (rowsL U y ++ (scanL U y 0).2)) := ⟨by show Kd.R _ _ _ _ _ _ (rowsL U y ++ []); rw [List.append_nil]; exact HO.out⟩
              clear HO
              go_loopg [11, 13, 78] 40 (fun gg u11 u13 u78 wr => ∃ x : Nat, x ≤ 40 ∧ 40 - x ≤ gg ∧ u78 = .int .i64 x ∧ u13 = .bool (scanL U y x).1 ∧ Aside0 (MapIs wr Try.prog 43 bm U.length cornV (inP U)) ∧ Aside0 (Kd.R k43 43 wr w.heap.size (fun k => k ≠ bm) u11 (rowsL U y ++ (scanL U y x).2)) ∧ Aside0 (Below w.heap.size w wr))
              case atStart => exact ⟨0, Nat.zero_le _, by omega, rfl, rfl, HM, HO0, HB⟩
              case round =>
                clear HM HO0 HB
                obtain ⟨x, hx, hgx, rfl, rfl, HM, HO, HB⟩ := hrel
                by_cases hxt : x < 40
                · have hxtz : (x : Int) < 40 := by omega
                  have hlk : (Instr.lookup 45 (.map (some bm)) (.agg #[.int .i64 (x : Int), .int .i64 (y : Int)]) false).run Try.prog wr = .ok (.bool (decide (((x : Int), (y : Int)) ∈ U))) wr := by
                    have h := HM.out.look cornKeyed Try.underlying45 (z := .bool false) (by kernel_rfl) (cornKey (x : Int) (y : Int) (i64_wf _ (by omega) (by omega)) (i64_wf _ (by omega) (by omega)))
                    have e : (inP U ((x : Int), (y : Int))).getD (.bool false) = .bool (decide (((x : Int), (y : Int)) ∈ U)) := by unfold inP; by_cases hin : ((x : Int), (y : Int)) ∈ U <;> simp [hin]
                    rw [e] at h
                    exact h
                  have hl1 := rowsL_len U y
                  have hl2 := scanL_len U y x
                  have hll : (rowsL U y ++ (scanL U y x).2).length ≤ 2000 := by rw [List.length_append]; omega
                  have hsc : scanL U y (x + 1) = (if decide (((x : Int), (y : Int)) ∈ U) then !(scanL U y x).1 else (scanL U y x).1, if (if decide (((x : Int), (y : Int)) ∈ U) then !(scanL U y x).1 else (scanL U y x).1) then (scanL U y x).2 ++ [⟨x, y⟩] else (scanL U y x).2) := by rw [scanL]; simp only [decide_eq_true_eq]
                  generalize (scanL U y x).1 = b0 at hsc ⊢
                  generalize (scanL U y x).2 = l0 at hsc hll HO ⊢
                  generalize decide (((x : Int), (y : Int)) ∈ U) = d0 at hsc hlk
                  clear hl1 hl2
                  obtain ⟨A, c2, rfl⟩ := Kd.R_slice HO.out
                  generalize hxs : rowsL U y ++ l0 = xs at HO hll ⊢
                  cases d0 with
                  | false =>
                    cases b0 with
                    | false =>
                      go_wp2_with fail
                      go_roundg (40 - (x + 1))
                      case measure => omega
                      case rel => exact ⟨x + 1, by omega, by omega, by go_num, by rw [hsc]; rfl, HM, ⟨by rw [hsc]; show Kd.R _ _ _ _ _ _ (rowsL U y ++ l0); rw [hxs]; exact HO.out⟩, HB⟩
                    | true =>
                      go_wp2_with (first | (at_builtin; refine Kd.R_append k43 (w0 := w) w.heap.size rfl (.tmp 89) (.tmp 93) 38 43 (.agg #[(.int .i64 0), (.int .i64 0)]) 16 rfl Try.underlying38 info43 rfl (by decide) (by omega) (.slice A xs.length c2) xs ⟨(x : Int), (y : Int)⟩ [.int .i64 (x : Int), .int .i64 (y : Int)] (fun k => k ≠ bm) (fun _ => False) rfl rfl ?aP (fun _ hk => hk.elim) ?aF ?aO ?aB ?aS ?aL ?_; (case aP => exact k43_mkM _ _ _ (⟨(x : Int), (y : Int)⟩ : S43)); (case aF => exact fun k hk => by have h_ := HM.out.lt; first | omega | (simp at hk; omega)); (case aO => exact HO.out); (case aB => exact HB.out); (case aS => exact HB.out.size); (case aL => omega); intro v1 w1 ho hb hg hat; have HOn := Aside0.mk ho; have HBn := Aside0.mk hb; have HMn := Aside0.mk (HM.out.move (hg.block bm HM.out.lt (Kd.R_away HO.out (fun _ hk => hk)))); clear ho hb hg hat))
                      go_roundg (40 - (x + 1))
                      case measure => omega
                      case rel => exact ⟨x + 1, by omega, by omega, by go_num, by rw [hsc]; rfl, HMn, ⟨by rw [hsc]; show Kd.R _ _ _ _ _ _ (rowsL U y ++ (l0 ++ [⟨x, y⟩])); rw [← List.append_assoc, hxs]; exact HOn.out⟩, HBn⟩
                  | true =>
                    cases b0 with
                    | false =>
                      go_wp2_with (first | (at_builtin; refine Kd.R_append k43 (w0 := w) w.heap.size rfl (.tmp 89) (.tmp 93) 38 43 (.agg #[(.int .i64 0), (.int .i64 0)]) 16 rfl Try.underlying38 info43 rfl (by decide) (by omega) (.slice A xs.length c2) xs ⟨(x : Int), (y : Int)⟩ [.int .i64 (x : Int), .int .i64 (y : Int)] (fun k => k ≠ bm) (fun _ => False) rfl rfl ?aP (fun _ hk => hk.elim) ?aF ?aO ?aB ?aS ?aL ?_; (case aP => exact k43_mkM _ _ _ (⟨(x : Int), (y : Int)⟩ : S43)); (case aF => exact fun k hk => by have h_ := HM.out.lt; first | omega | (simp at hk; omega)); (case aO => exact HO.out); (case aB => exact HB.out); (case aS => exact HB.out.size); (case aL => omega); intro v1 w1 ho hb hg hat; have HOn := Aside0.mk ho; have HBn := Aside0.mk hb; have HMn := Aside0.mk (HM.out.move (hg.block bm HM.out.lt (Kd.R_away HO.out (fun _ hk => hk)))); clear ho hb hg hat))
                      go_roundg (40 - (x + 1))
                      case measure => omega
                      case rel => exact ⟨x + 1, by omega, by omega, by go_num, by rw [hsc]; rfl, HMn, ⟨by rw [hsc]; show Kd.R _ _ _ _ _ _ (rowsL U y ++ (l0 ++ [⟨x, y⟩])); rw [← List.append_assoc, hxs]; exact HOn.out⟩, HBn⟩
                    | true =>
                      go_wp2_with fail
                      go_roundg (40 - (x + 1))
                      case measure => omega
                      case rel => exact ⟨x + 1, by omega, by omega, by go_num, by rw [hsc]; rfl, HM, ⟨by rw [hsc]; show Kd.R _ _ _ _ _ _ (rowsL U y ++ l0); rw [hxs]; exact HO.out⟩, HB⟩
                · have hxtz : ¬ (x : Int) < 40 := by omega
                  have hxe : x = 40 := by omega
                  subst hxe
                  go_wp2_with fail
                  go_roundg (40 - (y + 1))
                  case measure => omega
                  case rel => exact ⟨y + 1, by omega, by omega, by go_num, HM, ⟨by rw [rowsL_suc]; exact HO.out⟩, HB⟩
            · have hltz : ¬ (y : Int) < 40 := by omega
              have hye : y = 40 := by omega
              subst hye
              go_wp2_with fail
              go_ret
              rw [HLoE.out, HUE.out]
              exact ⟨_, rfl, Kd.R_mono HO.out (fun _ _ => trivial), HB.out⟩
def impl_cells.f (a0 : ByteArray) : Option (List S43) := if a0.size ≤ 40 then some (cellsW a0.data.toList) else none
theorem impl_cells.calls (a0 : ByteArray) (r : List S43) (w : World) (h : impl_cells.f a0 = some r) :
    Calls Try.prog 25 #[.string a0] w fun e w' => ∃ v0_ : Value, e = .returned v0_ ∧ Kd.R k43 43 w' w.heap.size (fun _ => True) v0_ r ∧ Below w.heap.size w w' := by
  unfold impl_cells.f at h
  split at h
  · rename_i h0
    obtain rfl := Option.some.inj h
    exact cells_any a0 h0 w
  · cases h

end Go.Proofs.Ytbnkdfmomcmmaaa.P


namespace Go.Proofs.Ytbnkdfmomcmmaaa.P
open Go.RowKit Go.Proofs.YtbnkdfmomcmmaaaW.PrintWords Go.Proofs.YtbnkdfmomcmmaaaW.PrintLast Go.Proofs.YtbnkdfmomcmmaaaW.PrintMore
attribute [local go_sem] max2_int min2_int max_two min_two max_three min_three max_four min_four   -- for this text's walks alone
set_option linter.unusedVariables false
set_option linter.unusedSimpArgs false

theorem strOfNums_len (x : List Int) : (strOfNums x).size = x.length := by
  unfold strOfNums
  simp [ByteArray.size]
def areaP (a : Int) (x : List Int) : Bool := (((cellsW (strOfNums x).data.toList).length : Int) == a)
set_option maxHeartbeats 4000000 in
theorem areaLit_any (Ba : Nat) (a : Int) (x : List Int) (hx : x.length ≤ 40) (W : World) (h1 : W.cell? ⟨Ba, 0, none⟩ = some (.int .i64 a)) :
    Calls Try.prog 24 #[.string (strOfNums x), .pointer (some ⟨Ba, 0, none⟩)] W fun e w' => e = .returned (.bool (areaP a x)) ∧ Below W.heap.size W w' := by
  have HK := Aside0.mk (show impl_cells.f (strOfNums x) = some (cellsW (strOfNums x).data.toList) from by unfold impl_cells.f; rw [if_pos (by rw [strOfNums_len]; exact hx)])
  have b1 := World.block_lt_of_cell? W _ h1
  unfold areaP
  generalize cellsW (strOfNums x).data.toList = L at HK ⊢
  generalize strOfNums x = s at HK ⊢
  clear hx
  go_enter Try.func24, Try.ntmps24
  go_wp2_with fail
  go_region_held3 (fun w' => w'.cell? ⟨Ba, 0, none⟩ = some (.int .i64 a))
    (first | go_keep | (rw [hb1.cell (by simp <;> omega)]; assumption))
    ((first
      | (go_at_call 25; refine (impl_cells.calls _ _ _ HK.out).mono ?_; rintro e w1 ⟨v, rfl, ho, hb1⟩; obtain ⟨A, c, rfl⟩ := Kd.R_slice ho; clear ho)))
  go_wp2
  go_ret
  exact ⟨rfl, ((Below.refl _ _).drew).trans hb1⟩
def impl_CountLoopsWithArea.f (a0 a1 : Int) : Option (Int × Bool) := if a1 < 0 then some (0, false) else (impl_isLength.f a0).bind fun t => if t = true then some ((((loopWords (a0 - 1).toNat).filter (areaP a1)).length : Int), true) else some (0, false)
theorem isLength_yesA {a : Int} (h : impl_isLength.f a = some true) : 4 ≤ a ∧ a ≤ 14 := by
  unfold impl_isLength.f impl_within.f at h
  by_cases h1 : 4 ≤ a
  · refine ⟨h1, ?_⟩
    by_cases h2 : a ≤ 14
    · exact h2
    · simp [h1, h2] at h
  · simp [h1] at h
theorem walkW_lens : ∀ m S word x y, ∀ z ∈ walkW m S word x y, z.length = word.length + m
  | 0, S, word, x, y, z, hz => by
    unfold walkW at hz
    split at hz
    · rw [List.mem_singleton] at hz; rw [hz]; rfl
    · cases hz
  | m + 1, S, word, x, y, z, hz => by
    unfold walkW at hz
    obtain ⟨d, hd, hz⟩ := List.mem_flatMap.1 hz
    unfold pieceW at hz
    split at hz
    · have := walkW_lens m _ _ _ _ z hz
      rw [this, List.length_append, List.length_singleton]; omega
    · split at hz
      · cases hz
      · have := walkW_lens m _ _ _ _ z hz
        rw [this, List.length_append, List.length_singleton]; omega
theorem loopWords_len (m : Nat) : ∀ z ∈ loopWords m, z.length = m + 1 := fun z hz => by
  have := walkW_lens m _ _ _ _ z hz
  rw [this, List.length_singleton]; omega
set_option maxHeartbeats 4000000 in
theorem impl_CountLoopsWithArea.calls (a0 a1 : Int) (r1 : Int) (r2 : Bool) (w : World) (h : impl_CountLoopsWithArea.f a0 a1 = some (r1, r2)) :
    Calls Try.prog 14 #[.int .i64 a0, .int .i64 a1] w fun e w' => e = .returned (.tuple #[.int .i64 r1, .bool r2]) ∧ Below w.heap.size w w' := by
  have hmf : ∀ (fn : Fn) (first cap : Array Value) (w : World), (Instr.makeFunc fn first cap).run Try.prog w = .ok (.func fn first cap) w := fun _ _ _ _ => rfl
  have ega : ∀ args w, (callFunc 24 args).run Try.prog w = .ok (.enter 24 args) w := enters_of Try.func24 (by kernel_rfl) rfl
  by_cases hneg : a1 < 0
  · unfold impl_CountLoopsWithArea.f at h
    rw [if_pos hneg] at h
    simp only [Option.some.injEq, Prod.mk.injEq] at h
    obtain ⟨rfl, rfl⟩ := h
    have hd : decide (a1 < 0) = true := decide_eq_true hneg
    go_enter Try.func14, Try.ntmps14
    go_wp2_with fail
    go_ret2
    exact ⟨rfl, below_alloc (Below.refl _ _) _⟩
  · have hcon : ∀ W : World, Aside0 (Below w.heap.size w W) → W.cell? ⟨w.heap.size, 0, none⟩ = some (.int .i64 a1) → Calls Try.prog 17 #[.int .i64 a0, .func (.func 24) #[] #[.pointer (some ⟨w.heap.size, 0, none⟩)]] W fun e w' => e = .returned (.tuple #[.int .i64 r1, .bool r2]) ∧ Below W.heap.size W w' := fun W hB hc => by
      unfold impl_CountLoopsWithArea.f at h
      rw [if_neg hneg] at h
      obtain ⟨t, ht, h⟩ := Option.bind_eq_some_iff.mp h
      cases t with
      | false =>
        simp at h
        obtain ⟨rfl, rfl⟩ := h
        exact countLoops_no a0 _ _ W ht
      | true =>
        rw [if_pos rfl] at h
        simp only [Option.some.injEq, Prod.mk.injEq] at h
        obtain ⟨rfl, rfl⟩ := h
        obtain ⟨h4, h14⟩ := isLength_yesA ht
        obtain ⟨m, rfl⟩ : ∃ m : Nat, a0 = (m : Int) + 1 := ⟨(a0 - 1).toNat, by omega⟩
        have e : ((m : Int) + 1 - 1).toNat = m := by omega
        rw [e]
        refine countLoops_yes 24 #[.pointer (some ⟨w.heap.size, 0, none⟩)] (areaP a1) (fun x => x.length ≤ 40) (fun k => k = w.heap.size) ega m W (by omega) ht ⟨fun k hk => ?_, fun W' x hW' hx => ?_⟩ (fun z hz => by have := loopWords_len m z hz; omega)
        · subst hk; exact World.block_lt_of_cell? W _ hc
        · exact areaLit_any w.heap.size a1 x hx W' ((World.cell?_of_block (w := W) (a := ⟨w.heap.size, 0, none⟩) (hW' _ rfl)).trans hc)
    have HC := Aside0.mk hcon
    clear hcon h ega
    have hd : decide (a1 < 0) = false := decide_eq_false hneg
    go_enter Try.func14, Try.ntmps14
    go_wp2_with ((go_at_call 17; refine (HC.out _ ?xB ?xC).mono ?_; (case xB => exact ⟨by repeat (first | exact Below.refl _ _ | apply below_alloc | apply pw_below_drewN | apply below_drew)⟩); (case xC => go_simp); rintro e w1 ⟨rfl, hb⟩))
    go_ret2
    exact ⟨rfl, (below_alloc (Below.refl _ _) _).trans (hb.mono (by simp))⟩

end Go.Proofs.Ytbnkdfmomcmmaaa.P


namespace Go.Proofs.Ytbnkdfmomcmmaaa.P
open Go.RowKit Go.Proofs.YtbnkdfmomcmmaaaW.PrintWords Go.Proofs.YtbnkdfmomcmmaaaW.PrintLast Go.Proofs.YtbnkdfmomcmmaaaW.PrintMore
attribute [local go_sem] max2_int min2_int max_two min_two max_three min_three max_four min_four   -- for this text's walks alone
set_option linter.unusedVariables false
set_option linter.unusedSimpArgs false

def laws_FnExactCountLoopsWithArea.f (k : Nat) (a0 : Int) (a1 : Int) : Option (Bool) := (spec_CountLoopsWithArea.f k a0 a1).bind fun bt240 => ((impl_CountLoopsWithArea.f a0 a1).bind fun bt242 => (if bt242.1 = bt240.1 then (if (bt242.2 != bt240.2) = true then (some false) else (some true)) else (some false)))
theorem laws_FnExactCountLoopsWithArea.mono : ∀ a0 a1 k, LeO (laws_FnExactCountLoopsWithArea.f k a0 a1) (laws_FnExactCountLoopsWithArea.f (k + 1) a0 a1) := by
  intro a0 a1 k
  unfold laws_FnExactCountLoopsWithArea.f
  repeat' first
      | (with_reducible exact spec_CountLoopsWithArea.mono _ _ _)
      | (with_reducible exact LeO.refl _)
      | (with_reducible exact LeO.none _)
      | (with_reducible refine LeO.ite ?_ ?_)
      | (with_reducible refine LeO.bind ?_ (fun _ => ?_))
      | exact spec_CountLoopsWithArea.mono _ _ _
      | exact LeO.none _
      | refine LeO.ite ?_ ?_
      | refine LeO.bind ?_ (fun _ => ?_)
set_option maxHeartbeats 8000000 in
set_option maxRecDepth 100000 in
theorem laws_FnExactCountLoopsWithArea.calls (k : Nat) (a0 : Int) (a1 : Int) (r : Bool) (w : World) (h : laws_FnExactCountLoopsWithArea.f k a0 a1 = some r) :
    Calls Try.prog 5 #[.int .i64 a0, .int .i64 a1] w fun e w' => e = .returned (.bool r) ∧ Below w.heap.size w w' := by
  have HB := Aside0.mk (Below.refl w.heap.size w)
  have H : ((spec_CountLoopsWithArea.f k a0 a1).bind fun bt240 => ((impl_CountLoopsWithArea.f a0 a1).bind fun bt242 => (if bt242.1 = bt240.1 then (if (bt242.2 != bt240.2) = true then (some false) else (some true)) else (some false)))) = some r := h
  clear h
  replace H := Option.bind_eq_some_iff.mp H
  obtain ⟨⟨t240, t241⟩, A30, H⟩ := H
  replace H : ((impl_CountLoopsWithArea.f a0 a1).bind fun bt242 => (if bt242.1 = t240 then (if (bt242.2 != t241) = true then (some false) else (some true)) else (some false))) = some r := H
  have A3 := Aside0.mk A30
  clear A30
  replace H := Option.bind_eq_some_iff.mp H
  obtain ⟨⟨t242, t243⟩, A40, H⟩ := H
  replace H : (if t242 = t240 then (if (t243 != t241) = true then (some false) else (some true)) else (some false)) = some r := H
  have A4 := Aside0.mk A40
  clear A40
  by_cases c5 : t242 = t240
  · rw [if_pos c5] at H
    have c5b0 : (t242 == t240) = true := beq_iff_eq.mpr c5
    have c5b1 : (t242 != t240) = false := bne_eq_false_iff_eq.mpr c5
    clear c5
    by_cases c6 : (t243 != t241) = true
    · rw [if_pos c6] at H
      have c6b0 : (t243 != t241) = true := c6
      (try (have c6b1 : decide (t243 = t241) = false := by simpa using c6))
      (try (have c6b2 : (t243 == t241) = false := by simpa using c6))
      (try (have c6b3 : ¬ (t243 = t241) := by simpa using c6))
      clear c6
      obtain rfl := Option.some.inj H
      go_enter Try.func5, Try.ntmps5
      go_wp2_with (first | ((with_reducible refine gate_callee (f := 13) rfl ?_); refine goesL_ (some 12) rfl rfl Try.func13 (by kernel_rfl) rfl #[.int .i64 a0, .int .i64 a1] rfl (by (try simp only [List.map_toArray, List.map_cons, List.map_nil]); first | done | rfl | (simp only [List.length_drop, List.length_take]; rfl)) ?_; (with_reducible refine (spec_CountLoopsWithArea.calls k a0 a1 t240 t241 _ A3.out).mono ?_); rintro e w7 ⟨rfl, hb⟩; refine ⟨_, rfl, ?_⟩; have n0_ := Aside0.mk (below_step (by repeat (first | (with_reducible first | exact HB.out | apply below_alloc | apply pw_below_drewN | apply below_drew1) | exact HB.out)) hb); clear HB; have HB := n0_; clear n0_; (try clear hb); (try clear hb2); (try clear hk); (try clear hi)) | ((with_reducible refine gate_callee (f := 14) rfl ?_); refine goesL_ (some 18) rfl rfl Try.func14 (by kernel_rfl) rfl #[.int .i64 a0, .int .i64 a1] rfl (by (try simp only [List.map_toArray, List.map_cons, List.map_nil]); first | done | rfl | (simp only [List.length_drop, List.length_take]; rfl)) ?_; (with_reducible refine (impl_CountLoopsWithArea.calls a0 a1 t242 t243 _ A4.out).mono ?_); rintro e w8 ⟨rfl, hb⟩; refine ⟨_, rfl, ?_⟩; have n0_ := Aside0.mk (below_step (by repeat (first | (with_reducible first | exact HB.out | apply below_alloc | apply pw_below_drewN | apply below_drew1) | exact HB.out)) hb); clear HB; have HB := n0_; clear n0_; (try clear hb); (try clear hb2); (try clear hk); (try clear hi)))
      go_ret
      exact ⟨by first | rfl | (simp [errW_none, errW_some] <;> rfl) | (simp [*, errW_none, errW_some] <;> rfl), by repeat (first | (with_reducible first | exact HB.out | apply below_alloc | apply pw_below_drewN | apply below_drew1) | exact HB.out)⟩
    · rw [if_neg c6] at H
      have c6b0 : (t243 != t241) = false := by simpa using c6
      (try (have c6b1 : decide (t243 = t241) = true := by simpa using c6))
      (try (have c6b2 : (t243 == t241) = true := by simpa using c6))
      clear c6
      obtain rfl := Option.some.inj H
      go_enter Try.func5, Try.ntmps5
      go_wp2_with (first | ((with_reducible refine gate_callee (f := 13) rfl ?_); refine goesL_ (some 12) rfl rfl Try.func13 (by kernel_rfl) rfl #[.int .i64 a0, .int .i64 a1] rfl (by (try simp only [List.map_toArray, List.map_cons, List.map_nil]); first | done | rfl | (simp only [List.length_drop, List.length_take]; rfl)) ?_; (with_reducible refine (spec_CountLoopsWithArea.calls k a0 a1 t240 t241 _ A3.out).mono ?_); rintro e w9 ⟨rfl, hb⟩; refine ⟨_, rfl, ?_⟩; have n0_ := Aside0.mk (below_step (by repeat (first | (with_reducible first | exact HB.out | apply below_alloc | apply pw_below_drewN | apply below_drew1) | exact HB.out)) hb); clear HB; have HB := n0_; clear n0_; (try clear hb); (try clear hb2); (try clear hk); (try clear hi)) | ((with_reducible refine gate_callee (f := 14) rfl ?_); refine goesL_ (some 18) rfl rfl Try.func14 (by kernel_rfl) rfl #[.int .i64 a0, .int .i64 a1] rfl (by (try simp only [List.map_toArray, List.map_cons, List.map_nil]); first | done | rfl | (simp only [List.length_drop, List.length_take]; rfl)) ?_; (with_reducible refine (impl_CountLoopsWithArea.calls a0 a1 t242 t243 _ A4.out).mono ?_); rintro e w10 ⟨rfl, hb⟩; refine ⟨_, rfl, ?_⟩; have n0_ := Aside0.mk (below_step (by repeat (first | (with_reducible first | exact HB.out | apply below_alloc | apply pw_below_drewN | apply below_drew1) | exact HB.out)) hb); clear HB; have HB := n0_; clear n0_; (try clear hb); (try clear hb2); (try clear hk); (try clear hi)))
      go_ret
      exact ⟨by first | rfl | (simp [errW_none, errW_some] <;> rfl) | (simp [*, errW_none, errW_some] <;> rfl), by repeat (first | (with_reducible first | exact HB.out | apply below_alloc | apply pw_below_drewN | apply below_drew1) | exact HB.out)⟩
  · rw [if_neg c5] at H
    have c5b0 : (t242 == t240) = false := beq_eq_false_iff_ne.mpr c5
    have c5b1 : (t242 != t240) = true := bne_iff_ne.mpr c5
    obtain rfl := Option.some.inj H
    go_enter Try.func5, Try.ntmps5
    go_wp2_with (first | ((with_reducible refine gate_callee (f := 13) rfl ?_); refine goesL_ (some 12) rfl rfl Try.func13 (by kernel_rfl) rfl #[.int .i64 a0, .int .i64 a1] rfl (by (try simp only [List.map_toArray, List.map_cons, List.map_nil]); first | done | rfl | (simp only [List.length_drop, List.length_take]; rfl)) ?_; (with_reducible refine (spec_CountLoopsWithArea.calls k a0 a1 t240 t241 _ A3.out).mono ?_); rintro e w11 ⟨rfl, hb⟩; refine ⟨_, rfl, ?_⟩; have n0_ := Aside0.mk (below_step (by repeat (first | (with_reducible first | exact HB.out | apply below_alloc | apply pw_below_drewN | apply below_drew1) | exact HB.out)) hb); clear HB; have HB := n0_; clear n0_; (try clear hb); (try clear hb2); (try clear hk); (try clear hi)) | ((with_reducible refine gate_callee (f := 14) rfl ?_); refine goesL_ (some 18) rfl rfl Try.func14 (by kernel_rfl) rfl #[.int .i64 a0, .int .i64 a1] rfl (by (try simp only [List.map_toArray, List.map_cons, List.map_nil]); first | done | rfl | (simp only [List.length_drop, List.length_take]; rfl)) ?_; (with_reducible refine (impl_CountLoopsWithArea.calls a0 a1 t242 t243 _ A4.out).mono ?_); rintro e w12 ⟨rfl, hb⟩; refine ⟨_, rfl, ?_⟩; have n0_ := Aside0.mk (below_step (by repeat (first | (with_reducible first | exact HB.out | apply below_alloc | apply pw_below_drewN | apply below_drew1) | exact HB.out)) hb); clear HB; have HB := n0_; clear n0_; (try clear hb); (try clear hb2); (try clear hk); (try clear hi)))
    go_ret
    exact ⟨by first | rfl | (simp [errW_none, errW_some] <;> rfl) | (simp [*, errW_none, errW_some] <;> rfl), by repeat (first | (with_reducible first | exact HB.out | apply below_alloc | apply pw_below_drewN | apply below_drew1) | exact HB.out)⟩

def laws_FnExactCountLoopsWithArea.Pure : Prop := ∀ (a0 : Int) (a1 : Int), (Lit.int .i64 a0).wf = true → (Lit.int .i64 a1).wf = true → ∃ k, laws_FnExactCountLoopsWithArea.f k a0 a1 = some true
theorem laws_FnExactCountLoopsWithArea.walk (P : laws_FnExactCountLoopsWithArea.Pure) (a0 : Int) (a1 : Int) (w : World) (w0 : (Lit.int .i64 a0).wf = true) (w1 : (Lit.int .i64 a1).wf = true) :
    Calls Try.prog 5 #[.int .i64 a0, .int .i64 a1] w fun e w' => e = .returned (.bool true) ∧ Below w.heap.size w w' := by
  obtain ⟨k, h⟩ := P a0 a1 w0 w1
  refine (laws_FnExactCountLoopsWithArea.calls k a0 a1 true w h).mono ?_
  rintro e w' ⟨rfl, hd⟩
  exact ⟨rfl, hd⟩

end Go.Proofs.Ytbnkdfmomcmmaaa.P


namespace Go.Proofs.Ytbnkdfmomcmmaaa.P
open Go.RowKit Go.Proofs.YtbnkdfmomcmmaaaW.PrintWords Go.Proofs.YtbnkdfmomcmmaaaW.PrintLast Go.Proofs.YtbnkdfmomcmmaaaW.PrintMore
attribute [local go_sem] max2_int min2_int max_two min_two max_three min_three max_four min_four   -- for this text's walks alone
set_option linter.unusedVariables false
set_option linter.unusedSimpArgs false

def badS (m : Nat) (seen : List (Int × Int)) (word : List Int) (x y : Int) : Prop :=
  (m : Int) < max x (-x) + max y (-y) ∨ (word ≠ [] ∧ x = 0 ∧ y = 0) ∨ (x, y) ∈ seen ∨ y < 0 ∨ (y = 0 ∧ x < 0)
instance (m : Nat) (seen : List (Int × Int)) (word : List Int) (x y : Int) : Decidable (badS m seen word x y) := by unfold badS; exact inferInstance
def sAll : Nat → List (Int × Int) → List Int → Int → Int → List (List Int)
  | 0, _, word, x, y => if x = 0 ∧ y = 0 then [word] else []
  | m + 1, seen, word, x, y => if badS (m + 1) seen word x y then [] else
    ([110, 101, 115, 119] : List Int).flatMap fun d => if word = [] ∧ d ≠ 101 then [] else sAll m (seen ++ [(x, y)]) (word ++ [d]) (nx4 x d) (ny4 y d)
theorem sAll_eq : ∀ (m : Nat) (seen S : List (Int × Int)) (word : List Int) (x y : Int), word ≠ [] → (∀ c, c ∈ S ↔ c ∈ seen ∨ c = (x, y)) → (0, 0) ∈ seen →
    sAll m seen word x y = if m = 0 then walkW m S word x y else if badS m seen word x y then [] else walkW m S word x y
  | 0, seen, S, word, x, y, _, _, _ => rfl
  | m + 1, seen, S, word, x, y, hw, hS, h0 => by
    rw [if_neg (by omega)]
    unfold sAll
    by_cases hb : badS (m + 1) seen word x y
    · rw [if_pos hb, if_pos hb]
    · rw [if_neg hb, if_neg hb]
      unfold walkW
      have key : ∀ d, (if word = [] ∧ d ≠ 101 then [] else sAll m (seen ++ [(x, y)]) (word ++ [d]) (nx4 x d) (ny4 y d)) = pieceW (walkW m) m S word x y d := by
        intro d
        rw [if_neg (fun h => hw h.1)]
        have hS' : ∀ c, c ∈ (nx4 x d, ny4 y d) :: S ↔ c ∈ seen ++ [(x, y)] ∨ c = (nx4 x d, ny4 y d) := by
          intro c
          simp only [List.mem_cons, List.mem_append, List.not_mem_nil, or_false, hS c]
          constructor
          · rintro (h | h | h)
            · exact .inr h
            · exact .inl (.inl h)
            · exact .inl (.inr h)
          · rintro ((h | h) | h)
            · exact .inr (.inl h)
            · exact .inr (.inr h)
            · exact .inl h
        rw [sAll_eq m (seen ++ [(x, y)]) ((nx4 x d, ny4 y d) :: S) (word ++ [d]) (nx4 x d) (ny4 y d) (by simp) hS' (List.mem_append_left _ h0)]
        unfold pieceW
        generalize nx4 x d = nx
        generalize ny4 y d = ny
        have hm0 : (0, 0) ∈ S := (hS (0, 0)).2 (.inl h0)
        have hmem : (nx, ny) ∈ S ↔ (nx, ny) ∈ seen ++ [(x, y)] := by
          rw [hS (nx, ny)]; simp
        cases m with
        | zero =>
          rw [if_pos rfl]
          by_cases hh : nx = 0 ∧ ny = 0
          · rw [if_pos ⟨hh.1, hh.2, rfl⟩]
            unfold walkW
            rw [if_pos hh]
          · rw [if_neg (fun h => hh ⟨h.1, h.2.1⟩)]
            unfold walkW
            rw [if_neg hh]
            split <;> rfl
        | succ m =>
          rw [if_neg (show ¬ m + 1 = 0 by omega), if_neg (show ¬ (nx = 0 ∧ ny = 0 ∧ m + 1 = 0) from fun h => by omega)]
          have hiff : badS (m + 1) (seen ++ [(x, y)]) (word ++ [d]) nx ny ↔ ((nx, ny) ∈ S ∨ ny < 0 ∨ (ny = 0 ∧ nx < 0) ∨ ((m + 1 : Nat) : Int) + 1 ≤ max nx (-nx) + ny) := by
            unfold badS
            rw [hmem]
            constructor
            · rintro (h | h | h | h | h)
              · by_cases hn : ny < 0
                · exact .inr (.inl hn)
                · exact .inr (.inr (.inr (by omega)))
              · obtain ⟨_, rfl, rfl⟩ := h
                exact .inl (List.mem_append_left _ h0)
              · exact .inl h
              · exact .inr (.inl h)
              · exact .inr (.inr (.inl h))
            · rintro (h | h | h | h)
              · exact .inr (.inr (.inl h))
              · exact .inr (.inr (.inr (.inl h)))
              · exact .inr (.inr (.inr (.inr h)))
              · exact .inl (by omega)
          by_cases hb2 : badS (m + 1) (seen ++ [(x, y)]) (word ++ [d]) nx ny
          · rw [if_pos hb2, if_pos (hiff.1 hb2)]
          · rw [if_neg hb2, if_neg (fun h => hb2 (hiff.2 h))]
      simp only [key]
theorem sAll_top (m : Nat) (hm : 3 ≤ m) : sAll (m + 1) [] [] 0 0 = walkW m [(1, 0), (0, 0)] [101] 1 0 := by
  unfold sAll
  rw [if_neg (by unfold badS; simp; omega)]
  have e := sAll_eq m [(0, 0)] [(1, 0), (0, 0)] [101] 1 0 (by simp) (by intro c; simp [or_comm]) (by simp)
  rw [if_neg (by omega), if_neg (by unfold badS; simp; omega)] at e
  simp [nx4, ny4, e]
theorem strOf_app (a b : List Int) : strOfNums a ++ strOfNums b = strOfNums (a ++ b) := by
  apply ByteArray.ext
  apply Array.ext'
  simp [strOfNums]
theorem sAll_len : ∀ m seen word x y, (sAll m seen word x y).length ≤ 4 ^ m
  | 0, seen, word, x, y => by unfold sAll; split <;> simp
  | m + 1, seen, word, x, y => by
    unfold sAll
    split
    · simp
    · have := flatMap_len (f := fun d => if word = [] ∧ d ≠ 101 then [] else sAll m (seen ++ [(x, y)]) (word ++ [d]) (nx4 x d) (ny4 y d)) (b := 4 ^ m) (fun d => by
        split
        · simp
        · exact sAll_len m _ _ _ _) [110, 101, 115, 119]
      simp only [List.length_cons, List.length_nil] at this
      rw [Nat.pow_succ]
      omega

end Go.Proofs.Ytbnkdfmomcmmaaa.P


namespace Go.Proofs.Ytbnkdfmomcmmaaa.P
open Go.RowKit Go.Proofs.YtbnkdfmomcmmaaaW.PrintWords Go.Proofs.YtbnkdfmomcmmaaaW.PrintLast Go.Proofs.YtbnkdfmomcmmaaaW.PrintMore
attribute [local go_sem] max2_int min2_int max_two min_two max_three min_three max_four min_four   -- for this text's walks alone
set_option linter.unusedVariables false
set_option linter.unusedSimpArgs false

def ofP (c : Int × Int) : S43 := ⟨c.1, c.2⟩
theorem hasP_l0 (l : List (Int × Int)) (x y : Int) : ∀ (d i k : Nat), i + d = l.length → d < k → l.length ≤ 1000 → spec_liHas.l0 k (l.map ofP) ((l.map ofP).length : Int) (i : Int) x y = some (decide ((x, y) ∈ l.drop i))
  | 0, i, k, h, hk, hl => by
    obtain ⟨k, rfl⟩ : ∃ j, k = j + 1 := ⟨k - 1, by omega⟩
    simp only [spec_liHas.l0, List.length_map]
    rw [if_neg (by omega), List.drop_of_length_le (by omega)]
    simp
  | d + 1, i, k, h, hk, hl => by
    obtain ⟨k, rfl⟩ : ∃ j, k = j + 1 := ⟨k - 1, by omega⟩
    have hi : i < l.length := by omega
    have hrd : rd_T43 (l.map ofP) (i : Int) = ofP l[i] := by unfold rd_T43; simp [List.getD_eq_getElem?_getD, List.getElem?_eq_getElem hi]
    have ih := hasP_l0 l x y d (i + 1) k (by omega) (by omega) hl
    simp only [spec_liHas.l0]
    rw [if_pos (by simp; omega), if_pos (by omega), if_pos (by simp; omega), hrd, List.drop_eq_getElem_cons hi]
    by_cases hc : l[i].1 = x ∧ l[i].2 = y
    · rw [if_pos (by simp [ofP, hc.1, hc.2])]
      have : (x, y) = l[i] := by rw [← hc.1, ← hc.2]
      simp only [List.mem_cons, this, true_or, decide_true]
    · rw [if_neg (by simp [ofP]; intro h1 h2; exact hc ⟨h1, h2⟩)]
      rw [show wrap64 ((i : Int) + 1) = ((i + 1 : Nat) : Int) by unfold wrap64; omega, ih]
      have : ¬ (x, y) = l[i] := fun h => hc ⟨by rw [← h], by rw [← h]⟩
      simp only [List.mem_cons, this, false_or]
theorem hasP_f (l : List (Int × Int)) (x y : Int) (k : Nat) (hk : l.length < k) (hl : l.length ≤ 1000) : spec_liHas.f k (l.map ofP) x y = some (decide ((x, y) ∈ l)) := by
  have := hasP_l0 l x y l.length 0 k (by omega) hk hl
  simpa [spec_liHas.f] using this
theorem absP_f (x : Int) (h0 : -1000 ≤ x) (h1 : x ≤ 1000) : spec_l1Abs.f x = some (max x (-x)) := by
  unfold spec_l1Abs.f spec_l1Most.f
  rw [show wrap64 (-x) = -x by unfold wrap64; omega]
  by_cases h : x > -x
  · rw [if_pos h]; simp; omega
  · rw [if_neg h]; simp; omega
theorem dirs_ext (i : Nat) (d : Int) (hd : ([110, 101, 115, 119] : List Int)[i]? = some d) : (⟨#[110, 101, 115, 119]⟩ : ByteArray).extract i (i + 1) = strOfNums [d] := by
  have hi : i = 0 ∨ i = 1 ∨ i = 2 ∨ i = 3 := by
    have := (List.getElem?_eq_some_iff.1 hd).1
    simp at this
    omega
  rcases hi with rfl | rfl | rfl | rfl <;> simp at hd <;> subst hd <;> decide
theorem dirs_some : ∃ dB : ByteArray, spec_liDirs.f = some dB ∧ dB.size = 4 ∧ ∀ (i : Nat) (d : Int), ([110, 101, 115, 119] : List Int)[i]? = some d → dB.extract i (i + 1) = strOfNums [d] := ⟨_, rfl, by decide, fun i d h => dirs_ext i d h⟩
theorem loStep_f (x y : Int) (i : Nat) (d : Int) (hd : ([110, 101, 115, 119] : List Int)[i]? = some d) (h0 : -1000 ≤ x) (h1 : x ≤ 1000) (h2 : -1000 ≤ y) (h3 : y ≤ 1000) : spec_loStep.f x y (i : Int) = some (nx4 x d, ny4 y d) := by
  have hi : i = 0 ∨ i = 1 ∨ i = 2 ∨ i = 3 := by
    have := (List.getElem?_eq_some_iff.1 hd).1
    simp at this
    omega
  rcases hi with rfl | rfl | rfl | rfl <;> simp at hd <;> subst hd <;> simp [spec_loStep.f, nx4, ny4, rd, wrap64] <;> omega
def pieceS (m : Nat) (seen : List (Int × Int)) (word : List Int) (x y d : Int) : List (List Int) := if word = [] ∧ d ≠ 101 then [] else sAll m (seen ++ [(x, y)]) (word ++ [d]) (nx4 x d) (ny4 y d)
theorem pieceS_len (m : Nat) (seen : List (Int × Int)) (word : List Int) (x y d : Int) : (pieceS m seen word x y d).length ≤ 4 ^ m := by
  unfold pieceS
  split
  · simp
  · exact sAll_len m _ _ _ _
theorem loAll_l0 (n : Int) (m k : Nat) (seen : List (Int × Int)) (word : List Int) (x y : Int) (out : List ByteArray) (i : Nat) (d : Int) (hd : ([110, 101, 115, 119] : List Int)[i]? = some d) (hs : seen.length ≤ 1000) (hw : word.length ≤ 1000) (hm : m ≤ 14) (ho : out.length ≤ 4 * 4 ^ m)
    (h0 : -1000 ≤ x) (h1 : x ≤ 1000) (h2 : -1000 ≤ y) (h3 : y ≤ 1000)
    (ih : ∀ z ∈ [nx4 x d], spec_loAll.f k n (strOfNums (word ++ [d])) ((seen ++ [(x, y)]).map ofP) z (ny4 y d) = some ((sAll m (seen ++ [(x, y)]) (word ++ [d]) z (ny4 y d)).map strOfNums)) :
    spec_loAll.l0 (k + 2) n (strOfNums word) (seen.map ofP) out (i : Int) x y = spec_loAll.l0 k n (strOfNums word) (seen.map ofP) (out ++ (pieceS m seen word x y d).map strOfNums) ((i : Int) + 1) x y := by
  have hi : i < 4 := by have := (List.getElem?_eq_some_iff.1 hd).1; simpa using this
  have hsz := strOfNums_size word
  have hw1 : wrap64 ((i : Int) + 1) = (i : Int) + 1 := by unfold wrap64; omega
  have hj2 : ∀ b : Bool, (b = true ↔ (word = [] ∧ d ≠ 101)) → spec_loAll.j2 (k + 1) n (strOfNums word) (seen.map ofP) out (i : Int) b x y = spec_loAll.l0 k n (strOfNums word) (seen.map ofP) (out ++ (pieceS m seen word x y d).map strOfNums) ((i : Int) + 1) x y := by
    intro b hb
    simp only [spec_loAll.j2]
    by_cases hbt : b = true
    · rw [if_pos hbt, hw1]
      unfold pieceS
      rw [if_pos (hb.1 hbt)]
      simp
    · rw [if_neg hbt]
      have hp : pieceS m seen word x y d = sAll m (seen ++ [(x, y)]) (word ++ [d]) (nx4 x d) (ny4 y d) := by unfold pieceS; rw [if_neg (fun h => hbt (hb.2 h))]
      have hlen := pieceS_len m seen word x y d
      have h4 : 4 ^ m ≤ 268435456 := Nat.le_trans (Nat.pow_le_pow_right (by omega) hm) (by decide)
      generalize 4 ^ m = pw at hlen h4 ho
      simp only [Option.bind_some, List.nil_append, List.length_nil, List.length_map, List.length_cons]
      rw [if_pos (by omega), if_pos (by omega)]
      obtain ⟨dB, hB1, hB2, hB3⟩ := dirs_some
      rw [hB1, Option.bind_some, hw1, if_pos (by omega), if_pos (by omega), if_pos (by omega)]
      rw [show ((i : Int) + 1).toNat = i + 1 by omega, show (i : Int).toNat = i by omega, hB3 i d hd, strOfNums_size, strOfNums_size]
      rw [if_pos (by simp; omega), loStep_f x y i d hd h0 h1 h2 h3, Option.bind_some]
      rw [strOf_app, show seen.map ofP ++ [(⟨x, y⟩ : S43)] = (seen ++ [(x, y)]).map ofP by simp [ofP]]
      have ih1 := ih _ (List.mem_singleton.2 rfl)
      rw [show (spec_loAll.f k n (strOfNums (word ++ [d])) ((seen ++ [(x, y)]).map ofP) (nx4 x d, ny4 y d).fst (nx4 x d, ny4 y d).snd) = some ((sAll m (seen ++ [(x, y)]) (word ++ [d]) (nx4 x d) (ny4 y d)).map strOfNums) from ih1, Option.bind_some]
      rw [hp] at hlen ⊢
      rw [if_pos (by simp only [List.length_map]; omega)]
  simp only [spec_loAll.l0]
  rw [if_pos (by omega)]
  by_cases hw0 : word = []
  · subst hw0
    rw [if_pos (by simp [strOfNums_size])]
    refine hj2 _ ?_
    have hi4 : i = 0 ∨ i = 1 ∨ i = 2 ∨ i = 3 := by omega
    rcases hi4 with rfl | rfl | rfl | rfl <;> simp at hd <;> subst hd <;> simp
  · rw [if_neg (by rw [hsz]; have := List.length_pos_iff.2 hw0; omega)]
    exact hj2 false ⟨fun h => by simp at h, fun h => absurd h.1 hw0⟩
theorem loAll_loop (n : Int) (m k : Nat) (seen : List (Int × Int)) (word : List Int) (x y : Int) (hs : seen.length ≤ 1000) (hw : word.length ≤ 1000) (hm : m ≤ 14) (h0 : -1000 ≤ x) (h1 : x ≤ 1000) (h2 : -1000 ≤ y) (h3 : y ≤ 1000)
    (ih : ∀ k', k ≤ k' → ∀ d ∈ ([110, 101, 115, 119] : List Int), spec_loAll.f k' n (strOfNums (word ++ [d])) ((seen ++ [(x, y)]).map ofP) (nx4 x d) (ny4 y d) = some ((sAll m (seen ++ [(x, y)]) (word ++ [d]) (nx4 x d) (ny4 y d)).map strOfNums)) :
    spec_loAll.l0 (k + 9) n (strOfNums word) (seen.map ofP) [] 0 x y = some ((([110, 101, 115, 119] : List Int).flatMap (pieceS m seen word x y)).map strOfNums) := by
  have p := fun d => pieceS_len m seen word x y d
  have s0 := loAll_l0 n m (k + 7) seen word x y [] 0 110 rfl hs hw hm (by simp) h0 h1 h2 h3 (fun z hz => by simp at hz; subst hz; exact ih _ (by omega) _ (by simp))
  have s1 := loAll_l0 n m (k + 5) seen word x y ([] ++ (pieceS m seen word x y 110).map strOfNums) 1 101 rfl hs hw hm (by have := p 110; simp; omega) h0 h1 h2 h3 (fun z hz => by simp at hz; subst hz; exact ih _ (by omega) _ (by simp))
  have s2 := loAll_l0 n m (k + 3) seen word x y ([] ++ (pieceS m seen word x y 110).map strOfNums ++ (pieceS m seen word x y 101).map strOfNums) 2 115 rfl hs hw hm (by have := p 110; have := p 101; simp; omega) h0 h1 h2 h3 (fun z hz => by simp at hz; subst hz; exact ih _ (by omega) _ (by simp))
  have s3 := loAll_l0 n m (k + 1) seen word x y ([] ++ (pieceS m seen word x y 110).map strOfNums ++ (pieceS m seen word x y 101).map strOfNums ++ (pieceS m seen word x y 115).map strOfNums) 3 119 rfl hs hw hm (by have := p 110; have := p 101; have := p 115; simp; omega) h0 h1 h2 h3 (fun z hz => by simp at hz; subst hz; exact ih _ (by omega) _ (by simp))
  have e0 : ((0 : Nat) : Int) = 0 := rfl
  have e1 : ((0 : Nat) : Int) + 1 = ((1 : Nat) : Int) := rfl
  have e2 : ((1 : Nat) : Int) + 1 = ((2 : Nat) : Int) := rfl
  have e3 : ((2 : Nat) : Int) + 1 = ((3 : Nat) : Int) := rfl
  rw [e0] at s0
  rw [show k + 9 = k + 7 + 2 from rfl, s0, show (0 : Int) + 1 = ((1 : Nat) : Int) from rfl, show k + 7 = k + 5 + 2 from rfl, s1, e2, show k + 5 = k + 3 + 2 from rfl, s2, e3, show k + 3 = k + 1 + 2 from rfl, s3]
  simp only [spec_loAll.l0]
  rw [if_neg (by omega)]
  simp
theorem loAll_f : ∀ (m : Nat) (k : Nat) (n : Int) (seen : List (Int × Int)) (word : List Int) (x y : Int), (word.length : Int) + m = n → n ≤ 14 → seen.length ≤ word.length → 100 + 20 * m ≤ k → -100 - (14 - (m : Int)) ≤ x → x ≤ 100 + (14 - (m : Int)) → -100 - (14 - (m : Int)) ≤ y → y ≤ 100 + (14 - (m : Int)) →
    spec_loAll.f k n (strOfNums word) (seen.map ofP) x y = some ((sAll m seen word x y).map strOfNums)
  | m, k, n, seen, word, x, y, hn, hn2, hs, hk, h0, h1, h2, h3 => by
    obtain ⟨k, rfl⟩ : ∃ j, k = j + 11 := ⟨k - 11, by omega⟩
    have hsz := strOfNums_size word
    have hwr : wrap64 (n - ((strOfNums word).size : Int)) = (m : Int) := by rw [hsz]; unfold wrap64; omega
    show spec_loAll.f (k + 10 + 1) _ _ _ _ _ = _
    simp only [spec_loAll.f]
    rw [hwr]
    cases m with
    | zero =>
      rw [if_pos (show ((0 : Nat) : Int) = 0 from rfl)]
      unfold sAll
      by_cases hxy : x = 0 ∧ y = 0
      · rw [if_pos (by simp [hxy.1, hxy.2]), if_pos hxy]; rfl
      · rw [if_neg (by simp; intro a b; exact hxy ⟨a, b⟩), if_neg hxy]; rfl
    | succ m =>
      rw [if_neg (by omega), absP_f x (by omega) (by omega), absP_f y (by omega) (by omega)]
      simp only [Option.bind_some]
      rw [show wrap64 (max x (-x) + max y (-y)) = max x (-x) + max y (-y) by unfold wrap64; omega, hasP_f seen x y (k + 10) (by omega) (by omega)]
      simp only [Option.bind_some]
      have hj : ∀ b : Bool, b = decide (badS (m + 1) seen word x y) → spec_loAll.j0 (k + 10) n (strOfNums word) (seen.map ofP) b x y = some ((sAll (m + 1) seen word x y).map strOfNums) := by
        intro b hb
        simp only [spec_loAll.j0]
        unfold sAll
        by_cases hbad : badS (m + 1) seen word x y
        · rw [if_pos (by rw [hb]; exact decide_eq_true hbad), if_pos hbad]; rfl
        · rw [if_neg (by rw [hb]; simp [hbad]), if_neg hbad]
          exact loAll_loop n m k seen word x y (by omega) (by omega) (by omega) (by omega) (by omega) (by omega) (by omega) (fun k' hk' d hd => by
            refine loAll_f m k' n (seen ++ [(x, y)]) (word ++ [d]) (nx4 x d) (ny4 y d) (by simp; omega) hn2 (by simp; omega) (by omega) ?_ ?_ ?_ ?_ <;>
            · simp at hd; rcases hd with rfl | rfl | rfl | rfl <;> simp [nx4, ny4] <;> omega)
      have hgt : (max x (-x) + max y (-y) > ((m + 1 : Nat) : Int)) ↔ ((m + 1 : Nat) : Int) < max x (-x) + max y (-y) := Iff.rfl
      by_cases c1 : max x (-x) + max y (-y) > ((m + 1 : Nat) : Int)
      · rw [if_pos c1]; exact hj true (by rw [eq_comm, decide_eq_true_iff]; exact .inl c1)
      · rw [if_neg c1]
        have rest : ∀ (hw : ¬ (word ≠ [] ∧ x = 0 ∧ y = 0)), (if decide ((x, y) ∈ seen) = true then spec_loAll.j0 (k + 10) n (strOfNums word) (seen.map ofP) true x y else if y < 0 then spec_loAll.j0 (k + 10) n (strOfNums word) (seen.map ofP) true x y else if y = 0 then spec_loAll.j0 (k + 10) n (strOfNums word) (seen.map ofP) (decide (x < 0)) x y else spec_loAll.j0 (k + 10) n (strOfNums word) (seen.map ofP) false x y) = some ((sAll (m + 1) seen word x y).map strOfNums) := by
          intro hw
          by_cases c2 : (x, y) ∈ seen
          · rw [if_pos (by simp [c2])]; exact hj true (by rw [eq_comm, decide_eq_true_iff]; exact .inr (.inr (.inl c2)))
          · rw [if_neg (by simp [c2])]
            by_cases c3 : y < 0
            · rw [if_pos c3]; exact hj true (by rw [eq_comm, decide_eq_true_iff]; exact .inr (.inr (.inr (.inl c3))))
            · rw [if_neg c3]
              by_cases c4 : y = 0
              · rw [if_pos c4]
                refine hj _ ?_
                rw [decide_eq_decide]
                constructor
                · intro h; exact .inr (.inr (.inr (.inr ⟨c4, h⟩)))
                · rintro (h | h | h | h | h)
                  · exact absurd h c1
                  · exact absurd h hw
                  · exact absurd h c2
                  · exact absurd h c3
                  · exact h.2
              · rw [if_neg c4]
                refine hj false ?_
                rw [eq_comm, decide_eq_false_iff_not]
                rintro (h | h | h | h | h)
                · exact c1 h
                · exact hw h
                · exact c2 h
                · exact c3 h
                · exact c4 h.1
        by_cases hw0 : word = []
        · rw [if_neg (by rw [hsz, hw0]; simp)]
          exact rest (fun h => h.1 hw0)
        · rw [if_pos (by rw [hsz]; have := List.length_pos_iff.2 hw0; omega)]
          by_cases hxy : x = 0 ∧ y = 0
          · rw [if_pos (by simp [hxy.1, hxy.2])]
            exact hj true (by rw [eq_comm, decide_eq_true_iff]; exact .inr (.inl ⟨hw0, hxy⟩))
          · rw [if_neg (by simp; intro a b; exact hxy ⟨a, b⟩)]
            exact rest (fun h => hxy h.2)

end Go.Proofs.Ytbnkdfmomcmmaaa.P


namespace Go.Proofs.Ytbnkdfmomcmmaaa.P
open Go.RowKit Go.Proofs.YtbnkdfmomcmmaaaW.PrintWords Go.Proofs.YtbnkdfmomcmmaaaW.PrintLast Go.Proofs.YtbnkdfmomcmmaaaW.PrintMore
attribute [local go_sem] max2_int min2_int max_two min_two max_three min_three max_four min_four   -- for this text's walks alone
set_option linter.unusedVariables false
set_option linter.unusedSimpArgs false

def pairC (c : S43) : Int × Int := (c.f0, c.f1)
def stepBW (b : UInt8) : Bool := b == 110 || b == 101 || b == 115 || b == 119
def dirN (b : Int) : Int := if b = 110 then 0 else if b = 101 then 1 else if b = 115 then 2 else if b = 119 then 3 else -1
theorem loDir_f (b : Int) (k : Nat) (hk : 10 < k) : spec_loDir.f k b = some (dirN b) := by
  obtain ⟨k, rfl⟩ : ∃ q, k = q + 5 := ⟨k - 5, by omega⟩
  have w0 : wrap64 (0 + 1) = 1 := by unfold wrap64; omega
  have w1 : wrap64 (1 + 1) = 2 := by unfold wrap64; omega
  have w2 : wrap64 (2 + 1) = 3 := by unfold wrap64; omega
  have w3 : wrap64 (3 + 1) = 4 := by unfold wrap64; omega
  have hs : ((⟨#[110, 101, 115, 119]⟩ : ByteArray).size : Int) = 4 := rfl
  have b0 : bt (⟨#[110, 101, 115, 119]⟩ : ByteArray) 0 = 110 := by decide
  have b1 : bt (⟨#[110, 101, 115, 119]⟩ : ByteArray) 1 = 101 := by decide
  have b2 : bt (⟨#[110, 101, 115, 119]⟩ : ByteArray) 2 = 115 := by decide
  have b3 : bt (⟨#[110, 101, 115, 119]⟩ : ByteArray) 3 = 119 := by decide
  unfold spec_loDir.f dirN
  simp only [spec_loDir.l0, spec_liDirs.f, Option.bind_some, w0, w1, w2, w3, hs, b0, b1, b2, b3]
  by_cases h0 : b = 110
  · subst h0; simp
  · by_cases h1 : b = 101
    · subst h1; simp
    · by_cases h2 : b = 115
      · subst h2; simp
      · by_cases h3 : b = 119
        · subst h3; simp
        · simp [h0, h1, h2, h3, Ne.symm h0, Ne.symm h1, Ne.symm h2, Ne.symm h3]
theorem byte_eq (b c : UInt8) : ((b.toNat : Int) = (c.toNat : Int)) ↔ b = c := ⟨fun h => UInt8.toNat_inj.1 (by exact_mod_cast h), fun h => by rw [h]⟩
theorem dir_step (b : UInt8) : stepBW b = true ↔ ¬ dirN (b.toNat : Int) < 0 := by
  have h0 : ((b.toNat : Int) = 110) ↔ b = 110 := byte_eq b 110
  have h1 : ((b.toNat : Int) = 101) ↔ b = 101 := byte_eq b 101
  have h2 : ((b.toNat : Int) = 115) ↔ b = 115 := byte_eq b 115
  have h3 : ((b.toNat : Int) = 119) ↔ b = 119 := byte_eq b 119
  unfold stepBW dirN
  simp only [h0, h1, h2, h3, Bool.or_eq_true, beq_iff_eq]
  by_cases q0 : b = 110
  · simp [q0]
  · by_cases q1 : b = 101
    · simp [q1]
    · by_cases q2 : b = 115
      · simp [q2]
      · by_cases q3 : b = 119
        · simp [q3]
        · simp [q0, q1, q2, q3]
theorem loStepW_f (x y : Int) (b : UInt8) (hb : stepBW b = true) (hx : -1000 ≤ x ∧ x ≤ 1000) (hy : -1000 ≤ y ∧ y ≤ 1000) : spec_loStep.f x y (dirN (b.toNat : Int)) = some ((nextC ⟨x, y⟩ (b.toNat : Int)).f0, (nextC ⟨x, y⟩ (b.toNat : Int)).f1) := by
  have r0 : rd ([0, 1, 0, -1] : List Int) 0 = 0 := rfl
  have r1 : rd ([0, 1, 0, -1] : List Int) 1 = 1 := rfl
  have r2 : rd ([0, 1, 0, -1] : List Int) 2 = 0 := rfl
  have r3 : rd ([0, 1, 0, -1] : List Int) 3 = -1 := rfl
  have q0 : rd ([-1, 0, 1, 0] : List Int) 0 = -1 := rfl
  have q1 : rd ([-1, 0, 1, 0] : List Int) 1 = 0 := rfl
  have q2 : rd ([-1, 0, 1, 0] : List Int) 2 = 1 := rfl
  have q3 : rd ([-1, 0, 1, 0] : List Int) 3 = 0 := rfl
  have e0 : wrap64 x = x := by unfold wrap64; omega
  have e1 : wrap64 (x + 1) = x + 1 := by unfold wrap64; omega
  have e2 : wrap64 (x + -1) = x - 1 := by unfold wrap64; omega
  have e3 : wrap64 (x - 1) = x - 1 := by unfold wrap64; omega
  have f0 : wrap64 y = y := by unfold wrap64; omega
  have f1 : wrap64 (y + 1) = y + 1 := by unfold wrap64; omega
  have f2 : wrap64 (y + -1) = y - 1 := by unfold wrap64; omega
  have f3 : wrap64 (y - 1) = y - 1 := by unfold wrap64; omega
  unfold nextC impl_Corner_next.f spec_loStep.f
  unfold stepBW at hb
  simp only [Bool.or_eq_true, beq_iff_eq] at hb
  rcases hb with ((rfl | rfl) | rfl) | rfl
  · have hd : dirN ((110 : UInt8).toNat : Int) = 0 := by decide
    rw [hd]
    simp [r0, q0, e0, f2, f3]
  · have hd : dirN ((101 : UInt8).toNat : Int) = 1 := by decide
    rw [hd]
    simp [r1, q1, e1, f0]
  · have hd : dirN ((115 : UInt8).toNat : Int) = 2 := by decide
    rw [hd]
    simp [r2, q2, e0, f1]
  · have hd : dirN ((119 : UInt8).toNat : Int) = 3 := by decide
    rw [hd]
    simp [r3, q3, e2, e3, f0]
theorem liHas_l0 (l : List S43) (x y : Int) (hl : l.length ≤ 1000) : ∀ (d k i : Nat), l.length - i = d → i ≤ l.length → d < k → spec_liHas.l0 k l (l.length : Int) (i : Int) x y = some (decide ((x, y) ∈ (l.drop i).map pairC)) := by
  intro d
  induction d with
  | zero =>
    intro k i h1 h2 h3
    obtain ⟨k, rfl⟩ : ∃ q, k = q + 1 := ⟨k - 1, by omega⟩
    simp only [spec_liHas.l0]
    rw [if_neg (by omega), List.drop_of_length_le (by omega)]
    rfl
  | succ d ih =>
    intro k i h1 h2 h3
    obtain ⟨k, rfl⟩ : ∃ q, k = q + 1 := ⟨k - 1, by omega⟩
    have hi : i < l.length := by omega
    have e1 : wrap64 ((i : Int) + 1) = ((i + 1 : Nat) : Int) := by unfold wrap64; omega
    have hrd : rd_T43 l (i : Int) = l[i] := by unfold rd_T43; rw [Int.toNat_natCast, List.getD_eq_getElem?_getD, List.getElem?_eq_getElem hi]; rfl
    simp only [spec_liHas.l0]
    rw [if_pos (by omega), if_pos (by omega), if_pos (by omega), hrd, e1, ih k (i + 1) (by omega) (by omega) (by omega), List.drop_eq_getElem_cons hi, List.map_cons]
    by_cases hq : (l[i].f0 == x && (l[i].f1 == y)) = true
    · rw [if_pos hq]
      rw [Bool.and_eq_true, beq_iff_eq, beq_iff_eq] at hq
      have : (x, y) = pairC l[i] := by unfold pairC; rw [hq.1, hq.2]
      rw [this]
      simp
    · rw [if_neg hq]
      have : ¬ (x, y) = pairC l[i] := fun h => hq (by
        unfold pairC at h
        rw [Prod.mk.injEq] at h
        rw [← h.1, ← h.2]; simp)
      congr 1
      rw [decide_eq_decide, List.mem_cons]
      exact ⟨fun h => .inr h, fun h => h.resolve_left this⟩
theorem liHas_f (l : List S43) (x y : Int) (hl : l.length ≤ 1000) (k : Nat) (hk : l.length < k) : spec_liHas.f k l x y = some (decide ((x, y) ∈ l.map pairC)) := by
  unfold spec_liHas.f
  have := liHas_l0 l x y hl l.length k 0 (by omega) (by omega) hk
  rw [List.drop_zero] at this
  exact this
theorem walk_at : ∀ (l : List UInt8) (c : S43) (i : Nat) (hi : i < l.length), (c :: walkFrom c l).getD (i + 1) ⟨0, 0⟩ = nextC ((c :: walkFrom c l).getD i ⟨0, 0⟩) ((l[i].toNat : Nat) : Int)
  | [], _, _, hi => absurd hi (by simp)
  | b :: t, c, 0, _ => rfl
  | b :: t, c, i + 1, hi => by
    have ih := walk_at t (nextC c (b.toNat : Int)) i (by simp at hi; omega)
    simp only [walkFrom, List.getD_cons_succ, List.getElem_cons_succ] at ih ⊢
    exact ih
theorem take_getD (l : List S43) (k i : Nat) (h : i < k) : (l.take k).getD i ⟨0, 0⟩ = l.getD i ⟨0, 0⟩ := by
  rw [List.getD_eq_getElem?_getD, List.getD_eq_getElem?_getD, List.getElem?_take, if_pos h]
structure LoopW (s : ByteArray) : Prop where
  n4 : 4 ≤ s.size
  n40 : s.size ≤ 40
  st : ∀ b ∈ s.data.toList, stepBW b = true
  cl : (cornersL s.data.toList).getD s.size ⟨0, 0⟩ = ⟨0, 0⟩
  inj : ∀ i j, i < j → j < s.size → pairC ((cornersL s.data.toList).getD i ⟨0, 0⟩) ≠ pairC ((cornersL s.data.toList).getD j ⟨0, 0⟩)

end Go.Proofs.Ytbnkdfmomcmmaaa.P


namespace Go.Proofs.Ytbnkdfmomcmmaaa.P
open Go.RowKit Go.Proofs.YtbnkdfmomcmmaaaW.PrintWords Go.Proofs.YtbnkdfmomcmmaaaW.PrintLast Go.Proofs.YtbnkdfmomcmmaaaW.PrintMore
attribute [local go_sem] max2_int min2_int max_two min_two max_three min_three max_four min_four   -- for this text's walks alone
set_option linter.unusedVariables false
set_option linter.unusedSimpArgs false

theorem bytesW_snoc (word : List Int) (d : Int) : (strOfNums (word ++ [d])).data.toList = (strOfNums word).data.toList ++ [UInt8.ofNat d.toNat] := by
  simp [strOfNums]
theorem bytesW_len (word : List Int) : (strOfNums word).data.toList.length = word.length := by
  simp [strOfNums]
def fourD (d : Int) : Prop := d = 110 ∨ d = 101 ∨ d = 115 ∨ d = 119
theorem byte_four {d : Int} (h : fourD d) : stepBW (UInt8.ofNat d.toNat) = true ∧ ((UInt8.ofNat d.toNat).toNat : Int) = d := by
  rcases h with rfl | rfl | rfl | rfl <;> exact ⟨by decide, by decide⟩
theorem next_four (c : S43) (d : Int) (h : fourD d) (hx : -1000 ≤ c.f0 ∧ c.f0 ≤ 1000) (hy : -1000 ≤ c.f1 ∧ c.f1 ≤ 1000) : nextC c d = ⟨nx4 c.f0 d, ny4 c.f1 d⟩ := by
  have hn := next_some c d
  have e : impl_Corner_next.f c.f0 c.f1 d = some (nx4 c.f0 d, ny4 c.f1 d) := by
    rcases h with rfl | rfl | rfl | rfl <;> simp [impl_Corner_next.f, nx4, ny4, wrap64] <;> omega
  rw [e] at hn
  simp only [Option.some.injEq, Prod.mk.injEq] at hn
  obtain ⟨h1, h2⟩ := hn
  generalize nextC c d = q at h1 h2
  cases q
  simp only at h1 h2
  rw [h1, h2]
structure OpenW (S : List (Int × Int)) (word : List Int) (x y : Int) : Prop where
  st : ∀ d ∈ word, fourD d
  at_ : (cornersL (strOfNums word).data.toList).getD word.length ⟨0, 0⟩ = ⟨x, y⟩
  inS : ∀ i, i ≤ word.length → pairC ((cornersL (strOfNums word).data.toList).getD i ⟨0, 0⟩) ∈ S
  inj : ∀ i j, i < j → j ≤ word.length → pairC ((cornersL (strOfNums word).data.toList).getD i ⟨0, 0⟩) ≠ pairC ((cornersL (strOfNums word).data.toList).getD j ⟨0, 0⟩)
structure GoodW (word : List Int) : Prop where
  st : ∀ d ∈ word, fourD d
  at_ : (cornersL (strOfNums word).data.toList).getD word.length ⟨0, 0⟩ = ⟨0, 0⟩
  inj : ∀ i j, i < j → j < word.length → pairC ((cornersL (strOfNums word).data.toList).getD i ⟨0, 0⟩) ≠ pairC ((cornersL (strOfNums word).data.toList).getD j ⟨0, 0⟩)
theorem corners_step (word : List Int) (d x y : Int) (hd : fourD d) (hl : word.length ≤ 100) (ha : (cornersL (strOfNums word).data.toList).getD word.length ⟨0, 0⟩ = ⟨x, y⟩) :
    (∀ i, i ≤ word.length → (cornersL (strOfNums (word ++ [d])).data.toList).getD i ⟨0, 0⟩ = (cornersL (strOfNums word).data.toList).getD i ⟨0, 0⟩) ∧ (cornersL (strOfNums (word ++ [d])).data.toList).getD (word.length + 1) ⟨0, 0⟩ = ⟨nx4 x d, ny4 y d⟩ := by
  rw [bytesW_snoc, cornersL_snoc, bytesW_len, ha, (byte_four hd).2]
  have hcl := cornersL_len (strOfNums word).data.toList
  have hbd := cornersL_bound (strOfNums word).data.toList (by rw [bytesW_len]; omega)
  rw [bytesW_len] at hcl
  generalize cornersL (strOfNums word).data.toList = cs at *
  have hm : (⟨x, y⟩ : S43) ∈ cs := by
    rw [List.getD_eq_getElem?_getD, List.getElem?_eq_getElem (by omega)] at ha
    rw [← ha]
    exact List.getElem_mem _
  have hb := hbd _ hm
  refine ⟨fun i hi => ?_, ?_⟩
  · rw [List.getD_eq_getElem?_getD, List.getD_eq_getElem?_getD, List.getElem?_append_left (by omega)]
  · rw [List.getD_eq_getElem?_getD, List.getElem?_append_right (by omega), hcl, Nat.sub_self]
    show nextC ⟨x, y⟩ d = _
    exact next_four _ d hd hb.1 hb.2
theorem walkW_good : ∀ (m : Nat) (S : List (Int × Int)) (word : List Int) (x y : Int), OpenW S word x y → ¬ (x = 0 ∧ y = 0) → word.length + m ≤ 100 → ∀ z ∈ walkW m S word x y, GoodW z
  | 0, S, word, x, y, _, hne, _, z, hz => by
    unfold walkW at hz
    rw [if_neg hne] at hz
    cases hz
  | m + 1, S, word, x, y, hO, hne, hl, z, hz => by
    unfold walkW at hz
    obtain ⟨d, hd, hz⟩ := List.mem_flatMap.1 hz
    have hd4 : fourD d := by
      simp only [List.mem_cons, List.not_mem_nil, or_false] at hd
      exact hd
    obtain ⟨k1, k2⟩ := corners_step word d x y hd4 (by omega) hO.at_
    have hst : ∀ e ∈ word ++ [d], fourD e := fun e he => by
      rw [List.mem_append, List.mem_singleton] at he
      rcases he with he | rfl
      · exact hO.st e he
      · exact hd4
    have h00 : (0, 0) ∈ S := hO.inS 0 (by omega)
    unfold pieceW at hz
    by_cases hh : nx4 x d = 0 ∧ ny4 y d = 0 ∧ m = 0
    · rw [if_pos hh] at hz
      obtain ⟨e1, e2, rfl⟩ := hh
      unfold walkW at hz
      rw [if_pos ⟨e1, e2⟩, List.mem_singleton] at hz
      subst hz
      refine ⟨hst, ?_, fun i j hij hj => ?_⟩
      · rw [List.length_append, List.length_singleton, k2, e1, e2]
      · rw [List.length_append, List.length_singleton] at hj
        rw [k1 i (by omega), k1 j (by omega)]
        exact hO.inj i j hij (by omega)
    · rw [if_neg hh] at hz
      split at hz
      · cases hz
      · rename_i hc
        rw [not_or] at hc
        have hnS := hc.1
        refine walkW_good m _ _ _ _ ⟨hst, ?_, fun i hi => ?_, fun i j hij hj => ?_⟩ ?_ (by rw [List.length_append, List.length_singleton]; omega) z hz
        · rw [List.length_append, List.length_singleton, k2]
        · rw [List.length_append, List.length_singleton] at hi
          by_cases e : i = word.length + 1
          · subst e
            rw [k2]
            exact List.mem_cons_self
          · rw [k1 i (by omega)]
            exact List.mem_cons_of_mem _ (hO.inS i (by omega))
        · rw [List.length_append, List.length_singleton] at hj
          by_cases e : j = word.length + 1
          · subst e
            rw [k1 i (by omega), k2]
            intro he
            apply hnS
            have := hO.inS i (by omega)
            rw [he] at this
            exact this
          · rw [k1 i (by omega), k1 j (by omega)]
            exact hO.inj i j hij (by omega)
        · rintro ⟨e1, e2⟩
          rw [e1, e2] at hnS
          exact hnS h00
theorem open_e : OpenW [(1, 0), (0, 0)] [101] 1 0 := by
  have h0 : cornersL (strOfNums [101]).data.toList = [⟨0, 0⟩, ⟨1, 0⟩] := by
    have := corners_step [] 101 0 0 (.inr (.inl rfl)) (by simp) rfl
    have e1 : cornersL (strOfNums ([] ++ [101])).data.toList = cornersL (strOfNums []).data.toList ++ [nextC ⟨0, 0⟩ 101] := by
      rw [bytesW_snoc, cornersL_snoc]
      rfl
    have e2 : nextC ⟨0, 0⟩ 101 = ⟨1, 0⟩ := by
      rw [next_four ⟨0, 0⟩ 101 (.inr (.inl rfl)) (by simp) (by simp)]
      rfl
    rw [e2] at e1
    exact e1
  refine ⟨fun d hd => ?_, ?_, fun i hi => ?_, fun i j hij hj => ?_⟩
  · rw [List.mem_singleton] at hd
    exact .inr (.inl hd)
  · rw [h0]; rfl
  · rw [h0]
    simp only [List.length_singleton] at hi
    rcases (show i = 0 ∨ i = 1 by omega) with rfl | rfl <;> simp [pairC]
  · rw [h0]
    simp only [List.length_singleton] at hj
    obtain rfl : i = 0 := by omega
    obtain rfl : j = 1 := by omega
    simp [pairC]
theorem loopWords_loop (m : Nat) (h3 : 3 ≤ m) (h13 : m ≤ 13) : ∀ z ∈ loopWords m, LoopW (strOfNums z) := fun z hz => by
  have hlen := loopWords_len m z hz
  have g := walkW_good m _ _ _ _ open_e (by omega) (by simp; omega) z hz
  have hs : (strOfNums z).size = m + 1 := by rw [strOfNums_len, hlen]
  refine ⟨by omega, by omega, fun b hb => ?_, ?_, fun i j hij hj => ?_⟩
  · have : b ∈ z.map fun d => UInt8.ofNat d.toNat := by
      have e : (strOfNums z).data.toList = z.map fun d => UInt8.ofNat d.toNat := by simp [strOfNums]
      rw [← e]; exact hb
    obtain ⟨d, hd, rfl⟩ := List.mem_map.1 this
    exact (byte_four (g.st d hd)).1
  · rw [hs, ← hlen]; exact g.at_
  · exact g.inj i j hij (by omega)

end Go.Proofs.Ytbnkdfmomcmmaaa.P


namespace Go.Proofs.Ytbnkdfmomcmmaaa.P
open Go.RowKit Go.Proofs.YtbnkdfmomcmmaaaW.PrintWords Go.Proofs.YtbnkdfmomcmmaaaW.PrintLast Go.Proofs.YtbnkdfmomcmmaaaW.PrintMore
attribute [local go_sem] max2_int min2_int max_two min_two max_three min_three max_four min_four   -- for this text's walks alone
set_option linter.unusedVariables false
set_option linter.unusedSimpArgs false

structure Ring (X Y : Nat → Int) (n : Nat) : Prop where
  n4 : 4 ≤ n
  clX : X n = X 0
  clY : Y n = Y 0
  st : ∀ i, i < n → (X (i + 1) = X i ∧ (Y (i + 1) = Y i + 1 ∨ Y (i + 1) = Y i - 1)) ∨ (Y (i + 1) = Y i ∧ (X (i + 1) = X i + 1 ∨ X (i + 1) = X i - 1))
  inj : ∀ i j, i < j → j < n → X i = X j → Y i = Y j → False
def minI (a b : Int) : Int := if b < a then b else a
def vE (X Y : Nat → Int) (i : Nat) (y : Int) : Bool := decide (X (i + 1) = X i) && decide (minI (Y i) (Y (i + 1)) = y)
def parN (p : Nat → Bool) : Nat → Bool
  | 0 => false
  | i + 1 => xor (parN p i) (p i)
theorem parN_congr {p q : Nat → Bool} : ∀ n, (∀ i, i < n → p i = q i) → parN p n = parN q n
  | 0, _ => rfl
  | n + 1, h => by
    unfold parN
    rw [parN_congr n (fun i hi => h i (by omega)), h n (by omega)]
theorem parN_xor (p q : Nat → Bool) : ∀ n, parN (fun i => xor (p i) (q i)) n = xor (parN p n) (parN q n)
  | 0 => rfl
  | n + 1 => by
    unfold parN
    rw [parN_xor p q n]
    cases parN p n <;> cases parN q n <;> cases p n <;> cases q n <;> rfl
theorem parN_none {p : Nat → Bool} : ∀ n, (∀ i, i < n → p i = false) → parN p n = false
  | 0, _ => rfl
  | n + 1, h => by
    unfold parN
    rw [parN_none n (fun i hi => h i (by omega)), h n (by omega)]
    rfl
theorem parN_one {p : Nat → Bool} : ∀ n, (∀ i j, i < j → j < n → p i = true → p j = true → False) → ((∃ i, i < n ∧ p i = true) ↔ parN p n = true)
  | 0, _ => ⟨fun ⟨i, h, _⟩ => absurd h (by omega), fun h => by cases h⟩
  | n + 1, h => by
    have ih := parN_one n (fun i j a b => h i j a (by omega))
    unfold parN
    cases hp : p n with
    | false =>
      rw [Bool.xor_false, ← ih]
      constructor
      · rintro ⟨i, h1, h2⟩
        refine ⟨i, ?_, h2⟩
        by_cases hi : i = n
        · subst hi; rw [hp] at h2; cases h2
        · omega
      · rintro ⟨i, h1, h2⟩
        exact ⟨i, by omega, h2⟩
    | true =>
      have hz : parN p n = false := parN_none n (fun i hi => by
        cases hc : p i with
        | false => rfl
        | true => exact (h i n hi (by omega) hc hp).elim)
      rw [hz]
      exact ⟨fun _ => rfl, fun _ => ⟨n, by omega, hp⟩⟩
namespace Ring
variable {X Y : Nat → Int} {n : Nat}
theorem prefix_ (R : Ring X Y n) (y : Int) : ∀ k, k ≤ n → parN (fun i => vE X Y i y) k = xor (decide (y < Y 0)) (decide (y < Y k))
  | 0, _ => by simp [parN]
  | k + 1, h => by
    unfold parN
    rw [prefix_ R y k (by omega)]
    have hs := R.st k (by omega)
    have e : vE X Y k y = xor (decide (y < Y k)) (decide (y < Y (k + 1))) := by
      unfold vE minI
      rcases hs with ⟨h1, h2⟩ | ⟨h1, h2⟩
      · rw [decide_eq_true h1, Bool.true_and]
        by_cases a : y < Y k <;> by_cases b : y < Y (k + 1)
        · rw [decide_eq_true a, decide_eq_true b, decide_eq_false (by split <;> omega)]; rfl
        · rw [decide_eq_true a, decide_eq_false b, decide_eq_true (by split <;> omega)]; rfl
        · rw [decide_eq_false a, decide_eq_true b, decide_eq_true (by split <;> omega)]; rfl
        · rw [decide_eq_false a, decide_eq_false b, decide_eq_false (by split <;> omega)]; rfl
      · rw [decide_eq_false (show ¬ X (k + 1) = X k by omega), h1]
        cases decide (y < Y k) <;> rfl
    rw [e]
    cases decide (y < Y 0) <;> cases decide (y < Y k) <;> cases decide (y < Y (k + 1)) <;> rfl
theorem row_even (R : Ring X Y n) (y : Int) : parN (fun i => vE X Y i y) n = false := by
  rw [R.prefix_ y n (Nat.le_refl _), R.clY]
  cases decide (y < Y 0) <;> rfl
theorem inj2 (R : Ring X Y n) {i j : Nat} (hi : i < n) (hj : j < n) (hx : X i = X j) (hy : Y i = Y j) : i = j := by
  rcases Nat.lt_trichotomy i j with h | h | h
  · exact (R.inj i j h hj hx hy).elim
  · exact h
  · exact (R.inj j i h hi hx.symm hy.symm).elim
theorem once (R : Ring X Y n) {i j : Nat} (hij : i < j) (hj : j < n) {y : Int} (h1 : vE X Y i y = true) (h2 : vE X Y j y = true) (hx : X i = X j) : False := by
  unfold vE minI at h1 h2
  rw [Bool.and_eq_true, decide_eq_true_iff, decide_eq_true_iff] at h1 h2
  have n4 := R.n4
  have s1 := R.st i (by omega)
  have s2 := R.st j hj
  have a1 := h1.2
  have a2 := h2.2
  have hne : Y i ≠ Y j := fun e => R.inj i j hij hj hx e
  have e1 : Y i = Y (j + 1) ∧ Y (i + 1) = Y j := by
    split at a1 <;> split at a2 <;> omega
  by_cases hl : j + 1 < n
  · exact R.inj i (j + 1) (by omega) hl (by omega) e1.1
  · have hjn : j + 1 = n := by omega
    rw [hjn, R.clY] at e1
    have hx0 : X i = X 0 := by rw [← R.clX, ← hjn]; omega
    have hi0 : i = 0 := R.inj2 (by omega) (by omega) hx0 e1.1
    subst hi0
    exact R.inj (0 + 1) j (by omega) hj (by omega) e1.2
def ins (X Y : Nat → Int) (n : Nat) (y x : Int) : Bool := parN (fun i => vE X Y i y && decide (X i ≤ x)) n
def atE (X Y : Nat → Int) (n : Nat) (y x : Int) : Bool := parN (fun i => vE X Y i y && decide (X i = x)) n
theorem ins_step (X Y : Nat → Int) (n : Nat) (y x : Int) : ins X Y n y (x + 1) = xor (ins X Y n y x) (atE X Y n y (x + 1)) := by
  unfold ins atE
  rw [← parN_xor]
  refine parN_congr n (fun i _ => ?_)
  cases vE X Y i y
  · rfl
  · rw [Bool.true_and, Bool.true_and, Bool.true_and]
    by_cases h : X i = x + 1
    · rw [decide_eq_true (show X i ≤ x + 1 by omega), decide_eq_false (show ¬ X i ≤ x by omega), decide_eq_true h]; rfl
    · by_cases h2 : X i ≤ x
      · rw [decide_eq_true (show X i ≤ x + 1 by omega), decide_eq_true h2, decide_eq_false h]; rfl
      · rw [decide_eq_false (show ¬ X i ≤ x + 1 by omega), decide_eq_false h2, decide_eq_false h]; rfl
theorem atE_iff (R : Ring X Y n) (y x : Int) : atE X Y n y x = true ↔ ∃ i, i < n ∧ vE X Y i y = true ∧ X i = x := by
  unfold atE
  rw [← parN_one n]
  · constructor
    · rintro ⟨i, h1, h2⟩
      rw [Bool.and_eq_true, decide_eq_true_iff] at h2
      exact ⟨i, h1, h2⟩
    · rintro ⟨i, h1, h2, h3⟩
      exact ⟨i, h1, by rw [h2, decide_eq_true h3]; rfl⟩
  · intro i j h1 h2 h3 h4
    rw [Bool.and_eq_true, decide_eq_true_iff] at h3 h4
    exact R.once h1 h2 h3.1 h4.1 (by omega)
theorem ins_low (y x : Int) (h : ∀ i, i < n → x < X i) : ins X Y n y x = false :=
  parN_none n (fun i hi => by have h2 := h i hi; rw [decide_eq_false (show ¬ X i ≤ x by omega), Bool.and_false])
theorem ins_high (R : Ring X Y n) (y x : Int) (h : ∀ i, i < n → X i ≤ x) : ins X Y n y x = false := by
  rw [← R.row_even y]
  exact parN_congr n (fun i hi => by rw [decide_eq_true (h i hi), Bool.and_true])
theorem ins_below (R : Ring X Y n) (y x : Int) (h : ∀ i, i < n → Y i ≤ y) : ins X Y n y x = false :=
  parN_none n (fun i hi => by
    have h1 := h i hi
    have h2 : Y (i + 1) ≤ y := by
      by_cases e : i + 1 < n
      · exact h _ e
      · have : i + 1 = n := by omega
        rw [this, R.clY]
        exact h 0 (by have := R.n4; omega)
    have s := R.st i hi
    unfold vE minI
    rcases s with ⟨a, b⟩ | ⟨a, b⟩
    · rw [decide_eq_false (show ¬ (if Y (i + 1) < Y i then Y (i + 1) else Y i) = y by split <;> omega), Bool.and_false]; rfl
    · rw [decide_eq_false (show ¬ X (i + 1) = X i by omega)]; rfl)
theorem near (R : Ring X Y n) : ∀ k i, i + k ≤ n → (X (i + k) - X i ≤ k ∧ X i - X (i + k) ≤ k) ∧ (Y (i + k) - Y i ≤ k ∧ Y i - Y (i + k) ≤ k)
  | 0, i, _ => by simp
  | k + 1, i, h => by
    have ih := near R k i (by omega)
    have s := R.st (i + k) (by omega)
    rw [show i + (k + 1) = i + k + 1 by omega]
    omega
theorem wide_le (R : Ring X Y n) (i j : Nat) (hi : i ≤ n) (hj : j ≤ n) : (X j - X i ≤ n ∧ Y j - Y i ≤ n) := by
  rcases Nat.le_total i j with h | h
  · have := R.near (j - i) i (by omega)
    rw [show i + (j - i) = j by omega] at this
    omega
  · have := R.near (i - j) j (by omega)
    rw [show j + (i - j) = i by omega] at this
    omega
end Ring

end Go.Proofs.Ytbnkdfmomcmmaaa.P


namespace Go.Proofs.Ytbnkdfmomcmmaaa.P
open Go.RowKit Go.Proofs.YtbnkdfmomcmmaaaW.PrintWords Go.Proofs.YtbnkdfmomcmmaaaW.PrintLast Go.Proofs.YtbnkdfmomcmmaaaW.PrintMore
attribute [local go_sem] max2_int min2_int max_two min_two max_three min_three max_four min_four   -- for this text's walks alone
set_option linter.unusedVariables false
set_option linter.unusedSimpArgs false

def rowG (q : Nat → Nat → Bool) (y : Nat) : Nat → List S43
  | 0 => []
  | x + 1 => if q y x then rowG q y x ++ [⟨x, y⟩] else rowG q y x
def gridG (q : Nat → Nat → Bool) (W : Nat) : Nat → List S43
  | 0 => []
  | y + 1 => gridG q W y ++ rowG q y W
theorem rowG_more (q : Nat → Nat → Bool) (y W : Nat) (h : ∀ x, W ≤ x → q y x = false) : ∀ d, rowG q y (W + d) = rowG q y W
  | 0 => rfl
  | d + 1 => by
    show (if q y (W + d) then _ else _) = _
    rw [h (W + d) (by omega), if_neg (by simp)]; exact rowG_more q y W h d
theorem rowG_none (q : Nat → Nat → Bool) (y : Nat) : ∀ W, (∀ x, x < W → q y x = false) → rowG q y W = []
  | 0, _ => rfl
  | W + 1, h => by
    show (if q y W then _ else _) = _
    rw [h W (by omega), if_neg (by simp), rowG_none q y W (fun x hx => h x (by omega))]
theorem gridG_more (q : Nat → Nat → Bool) (W H : Nat) (h : ∀ y x, H ≤ y → q y x = false) : ∀ d, gridG q W (H + d) = gridG q W H
  | 0 => rfl
  | d + 1 => by
    show gridG q W (H + d) ++ rowG q (H + d) W = _
    rw [rowG_none q (H + d) W (fun x _ => h _ _ (by omega)), List.append_nil]; exact gridG_more q W H h d
theorem gridG_wide (q : Nat → Nat → Bool) (W V : Nat) (h : ∀ y x, W ≤ x → q y x = false) (hv : W ≤ V) : ∀ H, gridG q V H = gridG q W H
  | 0 => rfl
  | H + 1 => by
    show gridG q V H ++ rowG q H V = gridG q W H ++ rowG q H W
    rw [gridG_wide q W V h hv H, show V = W + (V - W) by omega, rowG_more q H W (h H)]
theorem upsL_mem (cs : List S43) (lo : S43) (p : Int × Int) : ∀ k, p ∈ upsL cs lo k ↔ ∃ i, i < k ∧ (cs.getD (i + 1) ⟨0, 0⟩).f0 = (cs.getD i ⟨0, 0⟩).f0 ∧ p = ((cs.getD i ⟨0, 0⟩).f0 - lo.f0, minI (cs.getD i ⟨0, 0⟩).f1 (cs.getD (i + 1) ⟨0, 0⟩).f1 - lo.f1)
  | 0 => ⟨(fun h => by cases h), fun ⟨i, h, _⟩ => absurd h (by omega)⟩
  | k + 1 => by
    have ih := upsL_mem cs lo p k
    unfold upsL
    by_cases he : (cs.getD k ⟨0, 0⟩).f0 = (cs.getD (k + 1) ⟨0, 0⟩).f0
    · rw [if_pos he]
      have hi : ∀ (S : List (Int × Int)) (r : Int × Int), p ∈ insP S r ↔ p ∈ S ∨ p = r := fun S r => by
        unfold insP
        split
        · rename_i h
          constructor
          · exact .inl
          · rintro (h2 | rfl)
            · exact h2
            · exact h
        · rw [List.mem_cons]; exact Or.comm
      rw [hi, ih]
      constructor
      · rintro (⟨i, h1, h2, h3⟩ | h)
        · exact ⟨i, by omega, h2, h3⟩
        · exact ⟨k, by omega, he.symm, h⟩
      · rintro ⟨i, h1, h2, h3⟩
        by_cases e : i = k
        · subst e; exact .inr h3
        · exact .inl ⟨i, by omega, h2, h3⟩
    · rw [if_neg he, ih]
      constructor
      · rintro ⟨i, h1, h2, h3⟩; exact ⟨i, by omega, h2, h3⟩
      · rintro ⟨i, h1, h2, h3⟩
        refine ⟨i, ?_, h2, h3⟩
        by_cases e : i = k
        · subst e; exact (he h2.symm).elim
        · omega
def xW (cs : List S43) (i : Nat) : Int := (cs.getD i ⟨0, 0⟩).f0
def yW (cs : List S43) (i : Nat) : Int := (cs.getD i ⟨0, 0⟩).f1
theorem ups_at {cs : List S43} {n : Nat} (R : Ring (xW cs) (yW cs) n) (lo : S43) (x y : Nat) : ((x : Int), (y : Int)) ∈ upsL cs lo n ↔ Ring.atE (xW cs) (yW cs) n (y + lo.f1) (x + lo.f0) = true := by
  rw [upsL_mem, R.atE_iff]
  constructor
  · rintro ⟨i, h1, h2, h3⟩
    rw [Prod.mk.injEq] at h3
    refine ⟨i, h1, ?_, ?_⟩
    · unfold vE
      rw [Bool.and_eq_true, decide_eq_true_iff, decide_eq_true_iff]
      exact ⟨h2, by unfold yW; omega⟩
    · unfold xW; omega
  · rintro ⟨i, h1, h2, h3⟩
    unfold vE at h2
    rw [Bool.and_eq_true, decide_eq_true_iff, decide_eq_true_iff] at h2
    refine ⟨i, h1, h2.1, ?_⟩
    unfold xW yW at *
    rw [Prod.mk.injEq]
    omega
def inQ (cs : List S43) (lo : S43) (n : Nat) (y x : Nat) : Bool := Ring.ins (xW cs) (yW cs) n (y + lo.f1) (x + lo.f0)
theorem scan_in {cs : List S43} {n : Nat} (R : Ring (xW cs) (yW cs) n) (lo : S43) (hlo : ∀ i, i < n → lo.f0 ≤ xW cs i) (y : Nat) : ∀ x, (scanL (upsL cs lo n) y x).1 = Ring.ins (xW cs) (yW cs) n (y + lo.f1) (x + lo.f0 - 1) ∧ (scanL (upsL cs lo n) y x).2 = rowG (inQ cs lo n) y x
  | 0 => ⟨(Ring.ins_low (y + lo.f1) (((0 : Nat) : Int) + lo.f0 - 1) (fun i hi => by have := hlo i hi; omega)).symm, rfl⟩
  | x + 1 => by
    obtain ⟨h1, h2⟩ := scan_in R lo hlo y x
    have hu := ups_at R lo x y
    have hs := Ring.ins_step (xW cs) (yW cs) n (y + lo.f1) (x + lo.f0 - 1)
    rw [show (x : Int) + lo.f0 - 1 + 1 = x + lo.f0 by omega, ← h1] at hs
    have hb : (if ((x : Int), (y : Int)) ∈ upsL cs lo n then !(scanL (upsL cs lo n) y x).1 else (scanL (upsL cs lo n) y x).1) = inQ cs lo n y x := by
      unfold inQ
      rw [hs]
      by_cases h : ((x : Int), (y : Int)) ∈ upsL cs lo n
      · rw [if_pos h, hu.1 h, Bool.xor_true]
      · rw [if_neg h]
        have : Ring.atE (xW cs) (yW cs) n (y + lo.f1) (x + lo.f0) = false := by
          cases e : Ring.atE (xW cs) (yW cs) n (y + lo.f1) (x + lo.f0) with
          | false => rfl
          | true => exact (h (hu.2 e)).elim
        rw [this, Bool.xor_false]
    rw [scanL, rowG]
    dsimp only
    rw [hb, h2]
    refine ⟨?_, rfl⟩
    unfold inQ
    rw [show ((x + 1 : Nat) : Int) + lo.f0 - 1 = x + lo.f0 by omega]
theorem rows_in {cs : List S43} {n : Nat} (R : Ring (xW cs) (yW cs) n) (lo : S43) (hlo : ∀ i, i < n → lo.f0 ≤ xW cs i) : ∀ y, rowsL (upsL cs lo n) y = gridG (inQ cs lo n) 40 y
  | 0 => rfl
  | y + 1 => by rw [rowsL, gridG, rows_in R lo hlo y, (scan_in R lo hlo y 40).2]
structure BoxW (cs : List S43) (n : Nat) (lo hi : S43) : Prop where
  l0 : ∀ i, i < n → lo.f0 ≤ xW cs i
  l1 : ∀ i, i < n → lo.f1 ≤ yW cs i
  h0 : ∀ i, i < n → xW cs i ≤ hi.f0
  h1 : ∀ i, i < n → yW cs i ≤ hi.f1
  a0 : ∃ i, i < n ∧ xW cs i = lo.f0
  a1 : ∃ i, i < n ∧ yW cs i = lo.f1
  b0 : ∃ i, i < n ∧ xW cs i = hi.f0
  b1 : ∃ i, i < n ∧ yW cs i = hi.f1
theorem cells_box {cs : List S43} {n : Nat} (R : Ring (xW cs) (yW cs) n) (n40 : n ≤ 40) {lo hi : S43} (B : BoxW cs n lo hi) : rowsL (upsL cs lo n) 40 = gridG (inQ cs lo n) (hi.f0 - lo.f0).toNat (hi.f1 - lo.f1).toNat := by
  obtain ⟨i, hi', hx⟩ := B.a0
  obtain ⟨j, hj, hjx⟩ := B.b0
  obtain ⟨k, hk, hky⟩ := B.a1
  obtain ⟨m, hm, hmy⟩ := B.b1
  have w0 := (R.wide_le i j (by omega) (by omega)).1
  have w1 := (R.wide_le k m (by omega) (by omega)).2
  have p0 := B.h0 i hi'
  have p1 := B.h1 k hk
  rw [rows_in R lo B.l0]
  have e1 : ∀ y x, (hi.f0 - lo.f0).toNat ≤ x → inQ cs lo n y x = false := fun y x h => R.ins_high _ _ (fun i hi => by have := B.h0 i hi; omega)
  have e2 : ∀ y x, (hi.f1 - lo.f1).toNat ≤ y → inQ cs lo n y x = false := fun y x h => R.ins_below _ _ (fun i hi => by have := B.h1 i hi; omega)
  rw [gridG_wide (inQ cs lo n) (hi.f0 - lo.f0).toNat 40 e1 (by omega)]
  have := gridG_more (inQ cs lo n) (hi.f0 - lo.f0).toNat (hi.f1 - lo.f1).toNat e2 (40 - (hi.f1 - lo.f1).toNat)
  rw [show (hi.f1 - lo.f1).toNat + (40 - (hi.f1 - lo.f1).toNat) = 40 by omega] at this
  exact this
end Go.Proofs.Ytbnkdfmomcmmaaa.P


namespace Go.Proofs.Ytbnkdfmomcmmaaa.P
open Go.RowKit Go.Proofs.YtbnkdfmomcmmaaaW.PrintWords Go.Proofs.YtbnkdfmomcmmaaaW.PrintLast Go.Proofs.YtbnkdfmomcmmaaaW.PrintMore
attribute [local go_sem] max2_int min2_int max_two min_two max_three min_three max_four min_four   -- for this text's walks alone
set_option linter.unusedVariables false
set_option linter.unusedSimpArgs false

theorem nextC_unit (c : S43) (b : UInt8) (hb : stepBW b = true) (hx : -1000 ≤ c.f0 ∧ c.f0 ≤ 1000) (hy : -1000 ≤ c.f1 ∧ c.f1 ≤ 1000) : ((nextC c (b.toNat : Int)).f0 = c.f0 ∧ ((nextC c (b.toNat : Int)).f1 = c.f1 + 1 ∨ (nextC c (b.toNat : Int)).f1 = c.f1 - 1)) ∨ ((nextC c (b.toNat : Int)).f1 = c.f1 ∧ ((nextC c (b.toNat : Int)).f0 = c.f0 + 1 ∨ (nextC c (b.toNat : Int)).f0 = c.f0 - 1)) := by
  have h := next_some c (b.toNat : Int)
  generalize nextC c (b.toNat : Int) = d at h ⊢
  unfold impl_Corner_next.f at h
  have e1 : wrap64 (c.f1 - 1) = c.f1 - 1 := by unfold wrap64; omega
  have e2 : wrap64 (c.f0 + 1) = c.f0 + 1 := by unfold wrap64; omega
  have e3 : wrap64 (c.f1 + 1) = c.f1 + 1 := by unfold wrap64; omega
  have e4 : wrap64 (c.f0 - 1) = c.f0 - 1 := by unfold wrap64; omega
  rw [e1, e2, e3, e4] at h
  clear e1 e2 e3 e4
  repeat' split at h
  all_goals (simp only [Option.some.injEq, Prod.mk.injEq] at h; omega)
theorem ring_of (s : ByteArray) (h : LoopW s) : Ring (xW (cornersL s.data.toList)) (yW (cornersL s.data.toList)) s.size := by
  obtain ⟨h4, h40, hst, hend, hinj⟩ := h
  have hl : s.data.toList.length = s.size := by simp
  have hcl := cornersL_len s.data.toList
  have hbd := cornersL_bound s.data.toList (by omega)
  have hwk : ∀ i (hi : i < s.data.toList.length), (cornersL s.data.toList).getD (i + 1) ⟨0, 0⟩ = nextC ((cornersL s.data.toList).getD i ⟨0, 0⟩) ((s.data.toList[i].toNat : Nat) : Int) := fun i hi => walk_at s.data.toList ⟨0, 0⟩ i hi
  have h00 : (cornersL s.data.toList).getD 0 ⟨0, 0⟩ = ⟨0, 0⟩ := rfl
  generalize cornersL s.data.toList = cs at *
  refine ⟨h4, ?_, ?_, fun i hi => ?_, fun i j hij hj hx hy => ?_⟩
  · show (cs.getD _ _).f0 = (cs.getD _ _).f0
    rw [h00, hend]
  · show (cs.getD _ _).f1 = (cs.getD _ _).f1
    rw [h00, hend]
  · have hil : i < s.data.toList.length := by omega
    have hci : i < cs.length := by omega
    have hg : cs.getD i ⟨0, 0⟩ = cs[i] := by rw [List.getD_eq_getElem?_getD, List.getElem?_eq_getElem hci]; rfl
    have hb := hbd cs[i] (List.getElem_mem hci)
    have := nextC_unit cs[i] s.data.toList[i] (hst _ (List.getElem_mem hil)) hb.1 hb.2
    rw [← hg, ← hwk i hil] at this
    exact this
  · exact hinj i j hij hj (by unfold pairC; rw [Prod.mk.injEq]; exact ⟨hx, hy⟩)
theorem lowL_le (cs : List S43) : ∀ k i, i < k → (lowL cs k).f0 ≤ (cs.getD i ⟨0, 0⟩).f0 ∧ (lowL cs k).f1 ≤ (cs.getD i ⟨0, 0⟩).f1
  | 0, i, h => absurd h (by omega)
  | k + 1, i, h => by
    show (if _ then _ else _) ≤ _ ∧ (if _ then _ else _) ≤ _
    by_cases e : i = k
    · subst e; constructor <;> split <;> omega
    · have := lowL_le cs k i (by omega)
      constructor <;> split <;> omega
theorem lowL_at0 (cs : List S43) : ∀ k, ∃ i, (i < k ∨ i = 0) ∧ (cs.getD i ⟨0, 0⟩).f0 = (lowL cs k).f0
  | 0 => ⟨0, .inr rfl, rfl⟩
  | k + 1 => by
    obtain ⟨i, h1, h2⟩ := lowL_at0 cs k
    by_cases h : (cs.getD k ⟨0, 0⟩).f0 < (lowL cs k).f0
    · exact ⟨k, .inl (by omega), by show _ = (if _ then _ else _); rw [if_pos h]⟩
    · exact ⟨i, by omega, by show _ = (if _ then _ else _); rw [if_neg h]; exact h2⟩
theorem lowL_at1 (cs : List S43) : ∀ k, ∃ i, (i < k ∨ i = 0) ∧ (cs.getD i ⟨0, 0⟩).f1 = (lowL cs k).f1
  | 0 => ⟨0, .inr rfl, rfl⟩
  | k + 1 => by
    obtain ⟨i, h1, h2⟩ := lowL_at1 cs k
    by_cases h : (cs.getD k ⟨0, 0⟩).f1 < (lowL cs k).f1
    · exact ⟨k, .inl (by omega), by show _ = (if _ then _ else _); rw [if_pos h]⟩
    · exact ⟨i, by omega, by show _ = (if _ then _ else _); rw [if_neg h]; exact h2⟩
theorem mx_at (f : Nat → Int) : ∀ k, ∃ M, (∀ i, i < k + 1 → f i ≤ M) ∧ ∃ i, i < k + 1 ∧ f i = M
  | 0 => ⟨f 0, fun i hi => by rw [show i = 0 by omega]; exact Int.le_refl _, 0, by omega, rfl⟩
  | k + 1 => by
    obtain ⟨M, h1, i, h2, h3⟩ := mx_at f k
    by_cases h : f (k + 1) ≤ M
    · refine ⟨M, fun j hj => ?_, i, by omega, h3⟩
      by_cases e : j = k + 1
      · subst e; exact h
      · exact h1 j (by omega)
    · refine ⟨f (k + 1), fun j hj => ?_, k + 1, by omega, rfl⟩
      by_cases e : j = k + 1
      · subst e; exact Int.le_refl _
      · have := h1 j (by omega); omega
theorem box_of {cs : List S43} {n : Nat} (R : Ring (xW cs) (yW cs) n) : ∃ hi, BoxW cs n (lowL cs (n + 1)) hi := by
  have n4 := R.n4
  have back : ∀ i, (i < n + 1 ∨ i = 0) → ∃ j, j < n ∧ xW cs j = xW cs i ∧ yW cs j = yW cs i := fun i hi => by
    by_cases h : i < n
    · exact ⟨i, h, rfl, rfl⟩
    · have : i = n := by omega
      subst this
      exact ⟨0, by omega, R.clX.symm, R.clY.symm⟩
  obtain ⟨M, m1, m2⟩ := mx_at (xW cs) (n - 1)
  obtain ⟨K, k1, k2⟩ := mx_at (yW cs) (n - 1)
  rw [show n - 1 + 1 = n by omega] at m1 m2 k1 k2
  refine ⟨⟨M, K⟩, fun i hi => (lowL_le cs (n + 1) i (by omega)).1, fun i hi => (lowL_le cs (n + 1) i (by omega)).2, m1, k1, ?_, ?_, m2, k2⟩
  · obtain ⟨i, h1, h2⟩ := lowL_at0 cs (n + 1)
    obtain ⟨j, h3, h4, _⟩ := back i h1
    exact ⟨j, h3, h4.trans h2⟩
  · obtain ⟨i, h1, h2⟩ := lowL_at1 cs (n + 1)
    obtain ⟨j, h3, _, h4⟩ := back i h1
    exact ⟨j, h3, h4.trans h2⟩
theorem BoxW.same {cs : List S43} {n : Nat} {lo hi lo' hi' : S43} (B : BoxW cs n lo hi) (C : BoxW cs n lo' hi') : lo = lo' ∧ hi = hi' := by
  obtain ⟨a, ha, ha'⟩ := B.a0
  obtain ⟨b, hb, hb'⟩ := B.a1
  obtain ⟨c, hc, hc'⟩ := B.b0
  obtain ⟨d, hd, hd'⟩ := B.b1
  obtain ⟨e, he, he'⟩ := C.a0
  obtain ⟨f, hf, hf'⟩ := C.a1
  obtain ⟨g, hg, hg'⟩ := C.b0
  obtain ⟨i, hi9, hi'9⟩ := C.b1
  have q1 := B.l0 e he
  have q2 := C.l0 a ha
  have q3 := B.l1 f hf
  have q4 := C.l1 b hb
  have q5 := B.h0 g hg
  have q6 := C.h0 c hc
  have q7 := B.h1 i hi9
  have q8 := C.h1 d hd
  cases lo; cases lo'; cases hi; cases hi'
  simp only at *
  constructor <;> congr 1 <;> omega
end Go.Proofs.Ytbnkdfmomcmmaaa.P


namespace Go.Proofs.Ytbnkdfmomcmmaaa.P
open Go.RowKit Go.Proofs.YtbnkdfmomcmmaaaW.PrintWords Go.Proofs.YtbnkdfmomcmmaaaW.PrintLast Go.Proofs.YtbnkdfmomcmmaaaW.PrintMore
attribute [local go_sem] max2_int min2_int max_two min_two max_three min_three max_four min_four   -- for this text's walks alone
set_option linter.unusedVariables false
set_option linter.unusedSimpArgs false

theorem loCornersL_l0 (s : ByteArray) (h : LoopW s) : ∀ (d k i : Nat), s.size - i = d → i ≤ s.size → d + 100 < k →
    spec_loCorners.l0 k s ((cornersL s.data.toList).take i) (i : Int) ((cornersL s.data.toList).getD i ⟨0, 0⟩).f0 ((cornersL s.data.toList).getD i ⟨0, 0⟩).f1 = some ((cornersL s.data.toList).take s.size, true) := by
  obtain ⟨h4, h40, hst, hend, hinj⟩ := h
  have hl : s.data.toList.length = s.size := by simp
  have hcl := cornersL_len s.data.toList
  have hbds := cornersL_bound s.data.toList (by omega)
  have hwk : ∀ i (hi : i < s.data.toList.length), (cornersL s.data.toList).getD (i + 1) ⟨0, 0⟩ = nextC ((cornersL s.data.toList).getD i ⟨0, 0⟩) ((s.data.toList[i].toNat : Nat) : Int) := fun i hi => walk_at s.data.toList ⟨0, 0⟩ i hi
  generalize cornersL s.data.toList = cs at *
  intro d
  induction d with
  | zero =>
    intro k i h1 h2 h3
    obtain ⟨k, rfl⟩ : ∃ q, k = q + 1 := ⟨k - 1, by omega⟩
    obtain rfl : i = s.size := by omega
    simp only [spec_loCorners.l0]
    rw [if_neg (by omega), hend]
    rfl
  | succ d ih =>
    intro k i h1 h2 h3
    obtain ⟨k, rfl⟩ : ∃ q, k = q + 1 := ⟨k - 1, by omega⟩
    have hi : i < s.size := by omega
    have hil : i < s.data.toList.length := by omega
    have e1 : wrap64 ((i : Int) + 1) = ((i + 1 : Nat) : Int) := by unfold wrap64; omega
    have hbt : bt s (i : Int) = ((s.data.toList[i].toNat : Nat) : Int) := by
      unfold bt
      rw [Int.toNat_natCast, dif_pos (by omega)]
      rfl
    have hsb := hst _ (List.getElem_mem hil)
    have htl : (cs.take i).length = i := by rw [List.length_take]; omega
    have hci : i < cs.length := by omega
    have hgd : cs.getD i ⟨0, 0⟩ = cs[i] := by rw [List.getD_eq_getElem?_getD, List.getElem?_eq_getElem hci]; rfl
    have hbd := hbds cs[i] (List.getElem_mem hci)
    have htk : cs.take (i + 1) = cs.take i ++ [cs[i]] := List.take_succ_eq_append_getElem hci
    have hnot : ¬ (cs[i].f0, cs[i].f1) ∈ (cs.take i).map pairC := by
      intro hm
      obtain ⟨c, hc, he⟩ := List.mem_map.1 hm
      obtain ⟨j, hj, hjc⟩ := List.mem_iff_getElem.1 hc
      rw [List.length_take] at hj
      have hne := hinj j i (by omega) hi
      apply hne
      have e2 : cs.getD j ⟨0, 0⟩ = c := by
        rw [← hjc, List.getElem_take, List.getD_eq_getElem?_getD, List.getElem?_eq_getElem (by omega)]; rfl
      rw [e2, hgd, he]
      rfl
    have hnx := hwk i hil
    have ih2 := ih k (i + 1) (by omega) (by omega) (by omega)
    simp only [spec_loCorners.l0]
    rw [if_pos (by omega), if_pos (by omega), hbt, loDir_f _ k (by omega), Option.bind_some, if_neg ((dir_step _).1 hsb), liHas_f _ _ _ (by omega) k (by omega), Option.bind_some, hgd, decide_eq_false hnot, if_neg (by simp), if_pos (by rw [htl]; omega), loStepW_f _ _ _ hsb hbd.1 hbd.2, Option.bind_some, e1]
    rw [hnx, htk, hgd] at ih2
    exact ih2
theorem loCorners_yes (s : ByteArray) (h : LoopW s) (k : Nat) (hk : 1000 < k) : spec_loCorners.f k s = some ((cornersL s.data.toList).take s.size, true) := by
  have h4 := h.n4
  have h40 := h.n40
  unfold spec_loCorners.f spec_l1In.f
  rw [if_pos (by omega), decide_eq_true (show (s.size : Int) ≤ 40 by omega), Option.bind_some, if_pos rfl]
  exact loCornersL_l0 s h s.size k 0 (by omega) (by omega) (by omega)
theorem leastM_f (a b : Int) : spec_l1Least.f a b = some (if a < b then a else b) := by unfold spec_l1Least.f; split <;> rfl
theorem mostM_f (a b : Int) : spec_l1Most.f a b = some (if a > b then a else b) := by unfold spec_l1Most.f; split <;> rfl
theorem BoxW.step {cs : List S43} {n : Nat} {lo hi : S43} (B : BoxW cs n lo hi) : BoxW cs (n + 1) ⟨if lo.f0 < xW cs n then lo.f0 else xW cs n, if lo.f1 < yW cs n then lo.f1 else yW cs n⟩ ⟨if hi.f0 > xW cs n then hi.f0 else xW cs n, if hi.f1 > yW cs n then hi.f1 else yW cs n⟩ := by
  have pick : ∀ (P : Nat → Prop), (∀ i, i < n → P i) → P n → ∀ i, i < n + 1 → P i := fun P h1 h2 i hi => by
    by_cases e : i = n
    · subst e; exact h2
    · exact h1 i (by omega)
  refine ⟨pick _ (fun i hi => ?_) ?_, pick _ (fun i hi => ?_) ?_, pick _ (fun i hi => ?_) ?_, pick _ (fun i hi => ?_) ?_, ?_, ?_, ?_, ?_⟩
  · have := B.l0 i hi; show (if _ then _ else _) ≤ _; split <;> omega
  · show (if _ then _ else _) ≤ _; split <;> omega
  · have := B.l1 i hi; show (if _ then _ else _) ≤ _; split <;> omega
  · show (if _ then _ else _) ≤ _; split <;> omega
  · have := B.h0 i hi; show _ ≤ (if _ then _ else _); split <;> omega
  · show _ ≤ (if _ then _ else _); split <;> omega
  · have := B.h1 i hi; show _ ≤ (if _ then _ else _); split <;> omega
  · show _ ≤ (if _ then _ else _); split <;> omega
  · by_cases e : lo.f0 < xW cs n
    · obtain ⟨i, h1, h2⟩ := B.a0
      exact ⟨i, by omega, by show _ = (if _ then _ else _); rw [if_pos e]; exact h2⟩
    · exact ⟨n, by omega, by show _ = (if _ then _ else _); rw [if_neg e]⟩
  · by_cases e : lo.f1 < yW cs n
    · obtain ⟨i, h1, h2⟩ := B.a1
      exact ⟨i, by omega, by show _ = (if _ then _ else _); rw [if_pos e]; exact h2⟩
    · exact ⟨n, by omega, by show _ = (if _ then _ else _); rw [if_neg e]⟩
  · by_cases e : hi.f0 > xW cs n
    · obtain ⟨i, h1, h2⟩ := B.b0
      exact ⟨i, by omega, by show _ = (if _ then _ else _); rw [if_pos e]; exact h2⟩
    · exact ⟨n, by omega, by show _ = (if _ then _ else _); rw [if_neg e]⟩
  · by_cases e : hi.f1 > yW cs n
    · obtain ⟨i, h1, h2⟩ := B.b1
      exact ⟨i, by omega, by show _ = (if _ then _ else _); rw [if_pos e]; exact h2⟩
    · exact ⟨n, by omega, by show _ = (if _ then _ else _); rw [if_neg e]⟩
theorem loBox_l0 (L : List S43) (hL : L.length ≤ 1000) : ∀ (d k i : Nat) (lo hi : S43), L.length - i = d → 1 ≤ i → i ≤ L.length → d < k → BoxW L i lo hi →
    ∃ lo' hi', spec_loBox.l0 k L (L.length : Int) (i : Int) lo.f0 lo.f1 hi.f0 hi.f1 = some (lo'.f0, lo'.f1, hi'.f0, hi'.f1) ∧ BoxW L L.length lo' hi' := by
  intro d
  induction d with
  | zero =>
    intro k i lo hi h1 h2 h3 h4 B
    obtain ⟨k, rfl⟩ : ∃ q, k = q + 1 := ⟨k - 1, by omega⟩
    obtain rfl : i = L.length := by omega
    simp only [spec_loBox.l0]
    rw [if_neg (by omega)]
    exact ⟨lo, hi, rfl, B⟩
  | succ d ih =>
    intro k i lo hi h1 h2 h3 h4 B
    obtain ⟨k, rfl⟩ : ∃ q, k = q + 1 := ⟨k - 1, by omega⟩
    have e1 : wrap64 ((i : Int) + 1) = ((i + 1 : Nat) : Int) := by unfold wrap64; omega
    have hrd : rd_T43 L (i : Int) = L.getD i ⟨0, 0⟩ := by unfold rd_T43; rw [Int.toNat_natCast]; rfl
    obtain ⟨lo', hi', h5, h6⟩ := ih k (i + 1) _ _ (by omega) (by omega) (by omega) (by omega) B.step
    refine ⟨lo', hi', ?_, h6⟩
    rw [← h5]
    simp only [spec_loBox.l0]
    rw [if_pos (by omega), if_pos (by omega), if_pos (by omega), hrd, e1, leastM_f, leastM_f, mostM_f, mostM_f]
    simp only [Option.bind_some]
    rfl
theorem loBox_f (L : List S43) (hL : L.length ≤ 1000) (h0 : 0 < L.length) (k : Nat) (hk : 1001 < k) : ∃ lo hi, spec_loBox.f k L = some (lo.f0, lo.f1, hi.f0, hi.f1) ∧ BoxW L L.length lo hi := by
  obtain ⟨k, rfl⟩ : ∃ q, k = q + 1 := ⟨k - 1, by omega⟩
  have hrd : rd_T43 L 0 = L.getD 0 ⟨0, 0⟩ := rfl
  have B1 : BoxW L 1 (L.getD 0 ⟨0, 0⟩) (L.getD 0 ⟨0, 0⟩) := by
    have z : ∀ i, i < 1 → i = 0 := fun i h => by omega
    exact ⟨fun i h => by rw [z i h]; exact Int.le_refl _, fun i h => by rw [z i h]; exact Int.le_refl _, fun i h => by rw [z i h]; exact Int.le_refl _, fun i h => by rw [z i h]; exact Int.le_refl _, ⟨0, by omega, rfl⟩, ⟨0, by omega, rfl⟩, ⟨0, by omega, rfl⟩, ⟨0, by omega, rfl⟩⟩
  obtain ⟨lo, hi, h1, h2⟩ := loBox_l0 L hL (L.length - 1) k 1 _ _ rfl (by omega) (by omega) (by omega) B1
  refine ⟨lo, hi, ?_, h2⟩
  unfold spec_loBox.f
  rw [if_pos (by omega), hrd, ← h1]
  simp only [spec_loBox.l0]
  have e1 : wrap64 (0 + 1) = ((1 : Nat) : Int) := by unfold wrap64; omega
  rw [if_pos (by omega), if_pos (by omega), if_pos (by omega), hrd, e1, leastM_f, leastM_f, mostM_f, mostM_f]
  simp only [Option.bind_some, Int.lt_irrefl, gt_iff_lt, if_false]
theorem BoxW.congr {cs L : List S43} {n : Nat} {lo hi : S43} (B : BoxW L n lo hi) (h : ∀ i, i < n → L.getD i ⟨0, 0⟩ = cs.getD i ⟨0, 0⟩) : BoxW cs n lo hi := by
  have hx : ∀ i, i < n → xW L i = xW cs i := fun i hi => by unfold xW; rw [h i hi]
  have hy : ∀ i, i < n → yW L i = yW cs i := fun i hi => by unfold yW; rw [h i hi]
  obtain ⟨a, ha, ha'⟩ := B.a0
  obtain ⟨b, hb, hb'⟩ := B.a1
  obtain ⟨c, hc, hc'⟩ := B.b0
  obtain ⟨d, hd, hd'⟩ := B.b1
  exact ⟨fun i hi => by rw [← hx i hi]; exact B.l0 i hi, fun i hi => by rw [← hy i hi]; exact B.l1 i hi, fun i hi => by rw [← hx i hi]; exact B.h0 i hi, fun i hi => by rw [← hy i hi]; exact B.h1 i hi, ⟨a, ha, by rw [← hx a ha]; exact ha'⟩, ⟨b, hb, by rw [← hy b hb]; exact hb'⟩, ⟨c, hc, by rw [← hx c hc]; exact hc'⟩, ⟨d, hd, by rw [← hy d hd]; exact hd'⟩⟩
theorem loBox_loop (s : ByteArray) (h : LoopW s) (k : Nat) (hk : 1001 < k) : ∃ hi, spec_loBox.f k ((cornersL s.data.toList).take s.size) = some ((lowL (cornersL s.data.toList) (s.size + 1)).f0, (lowL (cornersL s.data.toList) (s.size + 1)).f1, hi.f0, hi.f1) ∧ BoxW (cornersL s.data.toList) s.size (lowL (cornersL s.data.toList) (s.size + 1)) hi := by
  have h4 := h.n4
  have h40 := h.n40
  have hl : s.data.toList.length = s.size := by simp
  have hcl := cornersL_len s.data.toList
  have R := ring_of s h
  generalize cornersL s.data.toList = cs at *
  have htl : (cs.take s.size).length = s.size := by rw [List.length_take]; omega
  obtain ⟨lo, hi, h1, h2⟩ := loBox_f (cs.take s.size) (by omega) (by omega) k hk
  rw [htl] at h2
  have h3 := h2.congr (cs := cs) (fun i hi => take_getD _ _ _ hi)
  obtain ⟨hi', B⟩ := box_of R
  obtain ⟨rfl, rfl⟩ := B.same h3
  exact ⟨_, h1, B⟩
theorem rowG_len (q : Nat → Nat → Bool) (y : Nat) : ∀ x, (rowG q y x).length ≤ x
  | 0 => Nat.le_refl _
  | x + 1 => by
    have := rowG_len q y x
    show (if q y x then _ else _ : List _).length ≤ _
    split
    · rw [List.length_append, List.length_singleton]; omega
    · omega
theorem gridG_len (q : Nat → Nat → Bool) (W : Nat) : ∀ y, (gridG q W y).length ≤ y * W
  | 0 => by simp [gridG]
  | y + 1 => by
    have := gridG_len q W y
    have h2 := rowG_len q y W
    show (gridG q W y ++ rowG q y W).length ≤ _
    rw [List.length_append, Nat.succ_mul]
    omega
section
variable (s : ByteArray) (h : LoopW s)
include h
theorem loCells_l2 (out : List S43) (l0 l1 h0 h1 y x : Int) : ∀ (d k i : Nat) (b : Bool), s.size - i = d → i ≤ s.size → 20 < k →
    spec_loCells.l2 (k + d + 1) s ((cornersL s.data.toList).take s.size) out y b x ((cornersL s.data.toList).take s.size) (((cornersL s.data.toList).take s.size).length : Int) (i : Int) l0 l1 h0 h1 =
    spec_loCells.l2 (k + 1) s ((cornersL s.data.toList).take s.size) out y (xor b (xor (parN (fun j => vE (xW (cornersL s.data.toList)) (yW (cornersL s.data.toList)) j y && decide (xW (cornersL s.data.toList) j = x)) s.size) (parN (fun j => vE (xW (cornersL s.data.toList)) (yW (cornersL s.data.toList)) j y && decide (xW (cornersL s.data.toList) j = x)) i))) x ((cornersL s.data.toList).take s.size) (((cornersL s.data.toList).take s.size).length : Int) (s.size : Int) l0 l1 h0 h1 := by
  obtain ⟨h4, h40, hst, hend, hinj⟩ := h
  have hl : s.data.toList.length = s.size := by simp
  have hcl := cornersL_len s.data.toList
  have hbds := cornersL_bound s.data.toList (by omega)
  have hwk : ∀ i (hi : i < s.data.toList.length), (cornersL s.data.toList).getD (i + 1) ⟨0, 0⟩ = nextC ((cornersL s.data.toList).getD i ⟨0, 0⟩) ((s.data.toList[i].toNat : Nat) : Int) := fun i hi => walk_at s.data.toList ⟨0, 0⟩ i hi
  generalize cornersL s.data.toList = cs at *
  have htl : (cs.take s.size).length = s.size := by rw [List.length_take]; omega
  intro d
  induction d with
  | zero =>
    intro k i b h1 h2 h3
    obtain rfl : i = s.size := by omega
    rw [Bool.xor_self, Bool.xor_false]
  | succ d ih =>
    intro k i b h1 h2 h3
    have hi : i < s.size := by omega
    have hil : i < s.data.toList.length := by omega
    have e1 : wrap64 ((i : Int) + 1) = ((i + 1 : Nat) : Int) := by unfold wrap64; omega
    have hbt : bt s (i : Int) = ((s.data.toList[i].toNat : Nat) : Int) := by
      unfold bt
      rw [Int.toNat_natCast, dif_pos (by omega)]
      rfl
    have hsb := hst _ (List.getElem_mem hil)
    have hci : i < cs.length := by omega
    have hgd : cs.getD i ⟨0, 0⟩ = cs[i] := by rw [List.getD_eq_getElem?_getD, List.getElem?_eq_getElem hci]; rfl
    have hrd : rd_T43 (cs.take s.size) (i : Int) = cs[i] := by
      unfold rd_T43
      rw [Int.toNat_natCast, ← hgd]
      exact take_getD cs s.size i hi
    have hbd := hbds cs[i] (List.getElem_mem hci)
    have hnx := hwk i hil
    rw [hgd] at hnx
    have hx0 : xW cs i = cs[i].f0 := by unfold xW; rw [hgd]
    have hy0 : yW cs i = cs[i].f1 := by unfold yW; rw [hgd]
    have hx1 : xW cs (i + 1) = (nextC cs[i] ((s.data.toList[i].toNat : Nat) : Int)).f0 := by unfold xW; rw [hnx]
    have hy1 : yW cs (i + 1) = (nextC cs[i] ((s.data.toList[i].toNat : Nat) : Int)).f1 := by unfold yW; rw [hnx]
    have un := nextC_unit cs[i] s.data.toList[i] hsb hbd.1 hbd.2
    have hp : parN (fun j => vE (xW cs) (yW cs) j y && decide (xW cs j = x)) (i + 1) = xor (parN (fun j => vE (xW cs) (yW cs) j y && decide (xW cs j = x)) i) (vE (xW cs) (yW cs) i y && decide (xW cs i = x)) := rfl
    have ih2 : ∀ b, _ := fun b => ih k (i + 1) b (by omega) (by omega) h3
    rw [hp] at ih2
    generalize hP : parN (fun j => vE (xW cs) (yW cs) j y && decide (xW cs j = x)) s.size = pn at ih2 ⊢
    generalize hQ : parN (fun j => vE (xW cs) (yW cs) j y && decide (xW cs j = x)) i = pi at ih2 ⊢
    have hv : (vE (xW cs) (yW cs) i y && decide (xW cs i = x)) = (decide (cs[i].f0 = x) && (decide ((nextC cs[i] ((s.data.toList[i].toNat : Nat) : Int)).f0 = x) && decide ((if cs[i].f1 < (nextC cs[i] ((s.data.toList[i].toNat : Nat) : Int)).f1 then cs[i].f1 else (nextC cs[i] ((s.data.toList[i].toNat : Nat) : Int)).f1) = y))) := by
      unfold vE minI
      rw [hx0, hx1, hy0, hy1]
      generalize nextC cs[i] ((s.data.toList[i].toNat : Nat) : Int) = nx at un
      rw [Bool.eq_iff_iff]
      simp only [Bool.and_eq_true, decide_eq_true_iff]
      constructor
      · rintro ⟨⟨a1, a2⟩, a3⟩
        refine ⟨a3, by omega, ?_⟩
        rw [← a2]
        split <;> split <;> omega
      · rintro ⟨a1, a2, a3⟩
        refine ⟨⟨by omega, ?_⟩, a1⟩
        rw [← a3]
        split <;> split <;> omega
    rw [hv] at ih2
    rw [show k + (d + 1) + 1 = (k + d + 1) + 1 by omega]
    rw [spec_loCells.l2]
    rw [if_pos (by omega), if_pos (by omega), if_pos (by omega), if_pos (by omega), hbt, loDir_f _ _ (by omega), Option.bind_some, hrd, loStepW_f _ _ _ hsb hbd.1 hbd.2, Option.bind_some, e1]
    dsimp only
    generalize nextC cs[i] ((s.data.toList[i].toNat : Nat) : Int) = nx at *
    by_cases c1 : cs[i].f0 = x
    · rw [if_pos c1]
      by_cases c2 : nx.f0 = x
      · rw [if_pos c2, leastM_f, Option.bind_some]
        by_cases c3 : (if cs[i].f1 < nx.f1 then cs[i].f1 else nx.f1) = y
        · rw [if_pos c3, ih2]
          rw [decide_eq_true c1, decide_eq_true c2, decide_eq_true c3]
          congr 1
          cases b <;> cases pn <;> cases pi <;> rfl
        · rw [if_neg c3, ih2]
          rw [decide_eq_false c3]
          congr 1
          simp
      · rw [if_neg c2, ih2]
        rw [decide_eq_false c2]
        congr 1
        simp
    · rw [if_neg c1, ih2]
      rw [decide_eq_false c1]
      congr 1
      simp
theorem loCells_l1 (lo hi : S43) (B : BoxW (cornersL s.data.toList) s.size lo hi) (G : List S43) (j F : Nat) (hF : 20 < F) (hj : j < 100) (hyn : -2000 ≤ lo.f1 ∧ lo.f1 ≤ 2000) (hxn : -2000 ≤ lo.f0 ∧ lo.f0 ≤ 2000) (hW : (hi.f0 - lo.f0).toNat ≤ 100)
    (IH : ∀ k, F < k → spec_loCells.l0 k s ((cornersL s.data.toList).take s.size) (gridG (inQ (cornersL s.data.toList) lo s.size) (hi.f0 - lo.f0).toNat (j + 1)) (wrap64 ((j : Int) + lo.f1 + 1)) lo.f0 lo.f1 hi.f0 hi.f1 = some G) :
    ∀ (e k i : Nat), (hi.f0 - lo.f0).toNat - i = e → i ≤ (hi.f0 - lo.f0).toNat → e * (s.size + 3) + F + 1 < k →
    spec_loCells.l1 k s ((cornersL s.data.toList).take s.size) (gridG (inQ (cornersL s.data.toList) lo s.size) (hi.f0 - lo.f0).toNat j ++ rowG (inQ (cornersL s.data.toList) lo s.size) j i) ((j : Int) + lo.f1) (Ring.ins (xW (cornersL s.data.toList)) (yW (cornersL s.data.toList)) s.size ((j : Int) + lo.f1) ((i : Int) + lo.f0 - 1)) ((i : Int) + lo.f0) lo.f0 lo.f1 hi.f0 hi.f1 = some G := by
  have hlo : lo.f0 ≤ hi.f0 := by
    obtain ⟨a, h1, h2⟩ := B.a0
    have := B.h0 a h1
    omega
  have htl : ((cornersL s.data.toList).take s.size).length = s.size := by rw [List.length_take, cornersL_len]; simp
  have h4 := h.n4
  have h40 := h.n40
  intro e
  induction e with
  | zero =>
    intro k i h1 h2 h3
    obtain ⟨k, rfl⟩ : ∃ q, k = q + 1 := ⟨k - 1, by omega⟩
    obtain rfl : i = (hi.f0 - lo.f0).toNat := by omega
    rw [spec_loCells.l1, if_neg (by omega)]
    have := IH k (by omega)
    rw [gridG] at this
    exact this
  | succ e ih =>
    intro k i h1 h2 h3
    rw [Nat.succ_mul] at h3
    generalize e * (s.size + 3) = es at h3 ih
    obtain ⟨k, rfl⟩ : ∃ q, k = q + s.size + 1 + 1 + 1 := ⟨k - (s.size + 3), by omega⟩
    have hi2 : i < (hi.f0 - lo.f0).toNat := by omega
    have e1 : wrap64 ((i : Int) + lo.f0 + 1) = ((i + 1 : Nat) : Int) + lo.f0 := by unfold wrap64; omega
    have e2 : wrap64 ((i : Int) + lo.f0 - lo.f0) = (i : Int) := by unfold wrap64; omega
    have e3 : wrap64 ((j : Int) + lo.f1 - lo.f1) = (j : Int) := by unfold wrap64; omega
    rw [spec_loCells.l1, if_pos (by omega)]
    have hw := loCells_l2 s h (gridG (inQ (cornersL s.data.toList) lo s.size) (hi.f0 - lo.f0).toNat j ++ rowG (inQ (cornersL s.data.toList) lo s.size) j i) lo.f0 lo.f1 hi.f0 hi.f1 ((j : Int) + lo.f1) ((i : Int) + lo.f0) s.size (k + 1) 0 (Ring.ins (xW (cornersL s.data.toList)) (yW (cornersL s.data.toList)) s.size ((j : Int) + lo.f1) ((i : Int) + lo.f0 - 1)) (by omega) (by omega) (by omega)
    have hs := Ring.ins_step (xW (cornersL s.data.toList)) (yW (cornersL s.data.toList)) s.size ((j : Int) + lo.f1) ((i : Int) + lo.f0 - 1)
    rw [show (i : Int) + lo.f0 - 1 + 1 = (i : Int) + lo.f0 by omega] at hs
    have hb : (xor (Ring.ins (xW (cornersL s.data.toList)) (yW (cornersL s.data.toList)) s.size ((j : Int) + lo.f1) ((i : Int) + lo.f0 - 1)) (xor (parN (fun j' => vE (xW (cornersL s.data.toList)) (yW (cornersL s.data.toList)) j' ((j : Int) + lo.f1) && decide (xW (cornersL s.data.toList) j' = (i : Int) + lo.f0)) s.size) (parN (fun j' => vE (xW (cornersL s.data.toList)) (yW (cornersL s.data.toList)) j' ((j : Int) + lo.f1) && decide (xW (cornersL s.data.toList) j' = (i : Int) + lo.f0)) 0))) = Ring.ins (xW (cornersL s.data.toList)) (yW (cornersL s.data.toList)) s.size ((j : Int) + lo.f1) ((i : Int) + lo.f0) := by
      rw [hs]
      show xor _ (xor (Ring.atE _ _ _ _ _) false) = _
      rw [Bool.xor_false]
    rw [hb] at hw
    rw [show k + s.size + 1 + 1 = k + 1 + s.size + 1 by omega]
    refine hw.trans ?_
    rw [spec_loCells.l2, if_neg (by omega), e1, e2, e3]
    have ih2 := ih (k + 1) (i + 1) (by omega) (by omega) (by omega)
    rw [rowG] at ih2
    rw [show ((i + 1 : Nat) : Int) + lo.f0 - 1 = (i : Int) + lo.f0 by omega] at ih2
    have hlen : (gridG (inQ (cornersL s.data.toList) lo s.size) (hi.f0 - lo.f0).toNat j ++ rowG (inQ (cornersL s.data.toList) lo s.size) j i).length < 8796093022208 := by
      have q1 := gridG_len (inQ (cornersL s.data.toList) lo s.size) (hi.f0 - lo.f0).toNat j
      have q2 := rowG_len (inQ (cornersL s.data.toList) lo s.size) j i
      have q3 : j * (hi.f0 - lo.f0).toNat ≤ 100 * 100 := Nat.mul_le_mul (by omega) hW
      rw [List.length_append]
      omega
    have hq : inQ (cornersL s.data.toList) lo s.size j i = Ring.ins (xW (cornersL s.data.toList)) (yW (cornersL s.data.toList)) s.size ((j : Int) + lo.f1) ((i : Int) + lo.f0) := rfl
    rw [hq] at ih2
    cases hc : Ring.ins (xW (cornersL s.data.toList)) (yW (cornersL s.data.toList)) s.size ((j : Int) + lo.f1) ((i : Int) + lo.f0) with
    | true =>
      rw [hc, if_pos rfl] at ih2
      rw [if_pos rfl, if_pos hlen, List.append_assoc]
      exact ih2
    | false =>
      rw [hc, if_neg (by simp)] at ih2
      rw [if_neg (by simp)]
      exact ih2
theorem loCells_l0 (lo hi : S43) (B : BoxW (cornersL s.data.toList) s.size lo hi) (hyn : -2000 ≤ lo.f1 ∧ lo.f1 ≤ 2000) (hxn : -2000 ≤ lo.f0 ∧ lo.f0 ≤ 2000) (hW : (hi.f0 - lo.f0).toNat ≤ 100) (hH : (hi.f1 - lo.f1).toNat ≤ 100) :
    ∀ (d k j : Nat), (hi.f1 - lo.f1).toNat - j = d → j ≤ (hi.f1 - lo.f1).toNat → d * 5000 + 30 < k →
    spec_loCells.l0 k s ((cornersL s.data.toList).take s.size) (gridG (inQ (cornersL s.data.toList) lo s.size) (hi.f0 - lo.f0).toNat j) ((j : Int) + lo.f1) lo.f0 lo.f1 hi.f0 hi.f1 = some (gridG (inQ (cornersL s.data.toList) lo s.size) (hi.f0 - lo.f0).toNat (hi.f1 - lo.f1).toNat) := by
  have hlo : lo.f1 ≤ hi.f1 := by
    obtain ⟨a, h1, h2⟩ := B.a1
    have := B.h1 a h1
    omega
  have h4 := h.n4
  have h40 := h.n40
  intro d
  induction d with
  | zero =>
    intro k j h1 h2 h3
    obtain ⟨k, rfl⟩ : ∃ q, k = q + 1 := ⟨k - 1, by omega⟩
    obtain rfl : j = (hi.f1 - lo.f1).toNat := by omega
    rw [spec_loCells.l0, if_neg (by omega)]
  | succ d ih =>
    intro k j h1 h2 h3
    rw [Nat.succ_mul] at h3
    obtain ⟨k, rfl⟩ : ∃ q, k = q + 1 := ⟨k - 1, by omega⟩
    rw [spec_loCells.l0, if_pos (by omega)]
    have e1 : wrap64 ((j : Int) + lo.f1 + 1) = ((j + 1 : Nat) : Int) + lo.f1 := by unfold wrap64; omega
    have hm : (hi.f0 - lo.f0).toNat * (s.size + 3) ≤ 100 * 43 := Nat.mul_le_mul hW (by omega)
    have hl1 := loCells_l1 s h lo hi B _ j (d * 5000 + 30) (by omega) (by omega) hyn hxn hW (fun k' hk' => by
      rw [e1]
      exact ih k' (j + 1) (by omega) (by omega) hk') (hi.f0 - lo.f0).toNat k 0 (by omega) (by omega) (by omega)
    have hz : Ring.ins (xW (cornersL s.data.toList)) (yW (cornersL s.data.toList)) s.size ((j : Int) + lo.f1) (((0 : Nat) : Int) + lo.f0 - 1) = false := Ring.ins_low _ _ (fun i hi => by have := B.l0 i hi; omega)
    rw [hz, rowG, List.append_nil] at hl1
    have e0 : ((0 : Nat) : Int) + lo.f0 = lo.f0 := by omega
    rw [e0] at hl1
    exact hl1
theorem loCells_f (k : Nat) (hk : 500100 < k) : spec_loCells.f k s = some (cellsW s.data.toList) := by
  have h4 := h.n4
  have h40 := h.n40
  have hl : s.data.toList.length = s.size := by simp
  obtain ⟨hi, h1, B⟩ := loBox_loop s h k (by omega)
  have R := ring_of s h
  have hbd := lowL_bd (cornersL s.data.toList) (cornersL_bound s.data.toList (by omega)) (s.size + 1)
  obtain ⟨a, ha, ha'⟩ := B.a0
  obtain ⟨b, hb, hb'⟩ := B.a1
  obtain ⟨c, hc, hc'⟩ := B.b0
  obtain ⟨d, hd, hd'⟩ := B.b1
  have w0 := (R.wide_le a c (by omega) (by omega)).1
  have w1 := (R.wide_le b d (by omega) (by omega)).2
  have hc2 : cellsW s.data.toList = gridG (inQ (cornersL s.data.toList) (lowL (cornersL s.data.toList) (s.size + 1)) s.size) (hi.f0 - (lowL (cornersL s.data.toList) (s.size + 1)).f0).toNat (hi.f1 - (lowL (cornersL s.data.toList) (s.size + 1)).f1).toNat := by
    unfold cellsW
    rw [hl]
    exact cells_box R h40 B
  rw [hc2]
  unfold spec_loCells.f
  rw [loCorners_yes s h k (by omega), Option.bind_some, h1, Option.bind_some]
  dsimp only
  generalize lowL (cornersL s.data.toList) (s.size + 1) = lo at *
  have hl0 := loCells_l0 s h lo hi B (by omega) (by omega) (by omega) (by omega) (hi.f1 - lo.f1).toNat k 0 (by omega) (by omega) (by omega)
  have e0 : ((0 : Nat) : Int) + lo.f1 = lo.f1 := by omega
  rw [e0] at hl0
  exact hl0
end

end Go.Proofs.Ytbnkdfmomcmmaaa.P


/- The law FnExactCountLoopsWithArea, as a statement of numbers and lists: both sides count the same words; no condition. -/
namespace Go.Proofs.Ytbnkdfmomcmmaaa.Pure
open Go.RowKit Go.Proofs.Ytbnkdfmomcmmaaa.P Go.Proofs.YtbnkdfmomcmmaaaW.PrintWords Go.Proofs.YtbnkdfmomcmmaaaW.PrintLast
theorem isLength_casesB (a : Int) : (impl_isLength.f a = some false ∧ spec_loNumber.f a = some false) ∨ (∃ m : Nat, 3 ≤ m ∧ m ≤ 13 ∧ a = (m : Int) + 1 ∧ impl_isLength.f a = some true ∧ spec_loNumber.f a = some true) := by
  unfold impl_isLength.f impl_within.f spec_loNumber.f spec_l1In.f
  by_cases h1 : 4 ≤ a
  · by_cases h2 : a ≤ 14
    · by_cases h3 : (Int.tmod a 2 == 0) = true
      · exact .inr ⟨(a - 1).toNat, by omega, by omega, by omega, by simp [h1, h2, h3], by simp [h1, h2, h3]⟩
      · have h3' : (Int.tmod a 2 == 0) = false := by simpa using h3
        exact .inl ⟨by simp [h1, h2, h3'], by simp [h1, h2, h3']⟩
    · exact .inl ⟨by simp [h1, h2], by simp [h1, h2]⟩
  · exact .inl ⟨by simp [h1], by simp [h1]⟩
theorem loEach_fB (m : Nat) (h3 : 3 ≤ m) (h13 : m ≤ 13) (k : Nat) (hk : 500 ≤ k) : spec_loEach.f k ((m : Int) + 1) = some ((P.loopWords m).map strOfNums) := by
  unfold spec_loEach.f
  have h := loAll_f (m + 1) k ((m : Int) + 1) [] [] 0 0 (by simp) (by omega) (by simp) (by omega) (by omega) (by omega) (by omega) (by omega)
  rw [sAll_top m h3] at h
  have e : (⟨#[]⟩ : ByteArray) = strOfNums [] := rfl
  rw [e, show ([] : List S43) = ([] : List (Int × Int)).map ofP from rfl, h]
  rfl
theorem countA_l0 (a : Int) (l : List (List Int)) (hl : l.length ≤ 100000000) (hg : ∀ z ∈ l, LoopW (strOfNums z)) : ∀ (d k i : Nat), l.length - i = d → i ≤ l.length → d + 600000 < k →
    spec_CountLoopsWithArea.l0 k a (((l.take i).filter (areaP a)).length : Int) (l.map strOfNums) ((l.map strOfNums).length : Int) (i : Int) = some (((l.filter (areaP a)).length : Int), true) := by
  intro d
  induction d with
  | zero =>
    intro k i h1 h2 h3
    obtain ⟨k, rfl⟩ : ∃ q, k = q + 1 := ⟨k - 1, by omega⟩
    obtain rfl : i = l.length := by omega
    simp only [spec_CountLoopsWithArea.l0]
    rw [List.length_map, if_neg (by omega), List.take_length]
  | succ d ih =>
    intro k i h1 h2 h3
    obtain ⟨k, rfl⟩ : ∃ q, k = q + 1 := ⟨k - 1, by omega⟩
    have hi : i < l.length := by omega
    have hrd : rdOf ByteArray.empty (l.map strOfNums) (i : Int) = strOfNums l[i] := by
      unfold rdOf
      rw [Int.toNat_natCast, List.getD_eq_getElem?_getD, List.getElem?_eq_getElem (by rw [List.length_map]; exact hi), List.getElem_map]
      rfl
    have ci : (i : Int) < (l.length : Int) := by omega
    have c0 : (0 : Int) ≤ (i : Int) := by omega
    have hf : ((l.take i).filter (areaP a)).length ≤ l.length := Nat.le_trans (List.length_filter_le _ _) (by rw [List.length_take]; omega)
    have w0 : wrap64 ((i : Int) + 1) = ((i + 1 : Nat) : Int) := by unfold wrap64; omega
    have w1 : wrap64 ((((l.take i).filter (areaP a)).length : Int) + 1) = (((l.take i).filter (areaP a)).length : Int) + 1 := by
      generalize ((l.take i).filter (areaP a)).length = q at hf
      unfold wrap64; omega
    have htk : l.take (i + 1) = l.take i ++ [l[i]] := List.take_succ_eq_append_getElem hi
    have ih2 := ih k (i + 1) (by omega) (by omega) (by omega)
    simp only [spec_CountLoopsWithArea.l0]
    rw [List.length_map] at ih2 ⊢
    rw [if_pos ci, if_pos c0, if_pos ci, hrd, loCells_f _ (hg _ (List.getElem_mem hi)) k (by omega), Option.bind_some, w0, w1]
    rw [htk, List.filter_append] at ih2
    cases ha : areaP a l[i] with
    | true =>
      have ha2 := ha
      unfold areaP at ha2
      rw [beq_iff_eq] at ha2
      rw [if_pos ha2]
      rw [List.filter_cons, ha, if_pos rfl, List.filter_nil, List.length_append, List.length_singleton] at ih2
      exact ih2
    | false =>
      have ha2 := ha
      unfold areaP at ha2
      rw [beq_eq_false_iff_ne] at ha2
      rw [if_neg ha2]
      rw [List.filter_cons, ha, if_neg (by simp), List.filter_nil, List.append_nil] at ih2
      exact ih2
theorem FnExactCountLoopsWithArea : laws_FnExactCountLoopsWithArea.Pure := by
  intro a0 a1 _ _
  refine ⟨200000000, ?_⟩
  unfold laws_FnExactCountLoopsWithArea.f spec_CountLoopsWithArea.f impl_CountLoopsWithArea.f
  rcases isLength_casesB a0 with ⟨h1, h2⟩ | ⟨m, h3, h13, rfl, h1, h2⟩
  · rw [h1, h2]
    simp only [Option.bind_some]
    rw [if_neg (by simp), spec_CountLoopsWithArea.j0, if_pos rfl]
    by_cases hn : a1 < 0
    · rw [if_pos hn]; simp
    · rw [if_neg hn]; simp
  · rw [h1, h2]
    simp only [Option.bind_some, if_true]
    rw [spec_CountLoopsWithArea.j0]
    by_cases hn : a1 < 0
    · rw [if_pos (decide_eq_true hn), if_pos hn]; simp
    · rw [if_neg (by simp; omega), if_neg hn, loEach_fB m h3 h13 _ (by omega), Option.bind_some]
      have hlen : (P.loopWords m).length ≤ 100000000 := by
        have h := walkW_len m [(1, 0), (0, 0)] [101] 1 0
        have h4 : 4 ^ m ≤ 4 ^ 13 := Nat.pow_le_pow_right (by omega) h13
        have h5 : 4 ^ 13 = 67108864 := by decide
        have h6 : (P.loopWords m).length = (walkW m [(1, 0), (0, 0)] [101] 1 0).length := rfl
        omega
      have := countA_l0 a1 (P.loopWords m) hlen (loopWords_loop m h3 h13) (P.loopWords m).length 199999999 0 (by omega) (by omega) (by omega)
      rw [List.take_zero] at this
      have e0 : (((([] : List (List Int)).filter (areaP a1)).length : Nat) : Int) = 0 := rfl
      rw [e0] at this
      have e1 : ((m : Int) + 1 - 1).toNat = m := by omega
      have e2 : ((0 : Nat) : Int) = 0 := rfl
      rw [e2] at this
      rw [this, e1]
      simp
end Go.Proofs.Ytbnkdfmomcmmaaa.Pure


namespace Go.Proofs.Ytbnkdfmomcmmaaa.fnExactCountLoopsWithArea
open Go.ChangeShapes Go.WideShapes Go.ChangeAt Go.RowKit
open Go.ChangeMaps (open_string shut_string)
set_option linter.unusedVariables false
theorem own : ownKnob Try.prog.godebug = none := by kernel_rfl
set_option maxRecDepth 100000 in
theorem lifted (os : Os) (started : os.Started) (H : Type) (enc : TypeId × Value → H) :
    ReturnsInHanded {} Try.checked os 5 .any (Rows.fnExactCountLoopsWithAreaSpec.pre6 enc Try.prog Try.f5 Rows.fnExactCountLoopsWithAreaRow.domain false) (Rows.fnExactCountLoopsWithAreaSpec.post enc Try.prog Try.f5 false true false false) := by
  refine returnsInHanded_of_change_sized (C := Try.checked) own started (by kernel_rfl) Try.func5
    (ChangeSpec.witness6 (enc := enc) (C := Try.checked) false ⟨#[], #[.int .i64 0, .int .i64 0], []⟩ 8 (by kernel_rfl) (by kernel_rfl) (by kernel_rfl) (by kernel_rfl)) ?_
  intro W base args ds gs before hval0 hW hcnd hsz0 _
  have hsz : (DataW.weightsEach Try.prog (Try.f5.params.toList ++ Rows.fnExactCountLoopsWithAreaSpec.plain.varTypes Try.prog) (ds ++ gs)).all (· ≤ reachBytes) = true := hsz0
  have hval : ∀ (j : Nat) t v, Try.f5.params[j]? = some t → args[j]? = some v → Value.okWide Try.prog W .any base t v := hval0
  have hW' := hW
  obtain ⟨p, q, hA0, hV, rfl, hfz, hnd⟩ := hW
  have hA : DataW.TrodAll enc Try.prog W 0 (fun _ => true) true Try.f5.params.toList args.toList ds p := hA0
  rw [Try.params5] at hA hval hsz
  obtain ⟨v0, vs0, d0, ds0, p0, q0, hargs, rfl, rfl, h0, r0⟩ := trodAll_cons hA
  obtain ⟨v1, vs1, d1, ds1, p1, q1, rfl, rfl, rfl, h1, r1⟩ := trodAll_cons r0
  obtain ⟨rfl, rfl, rfl⟩ := trodAll_nil r1
  obtain rfl : args = #[v0, v1] := by cases args; simp_all
  obtain ⟨rfl, rfl⟩ := trodVars_none hV
  obtain ⟨a0, rfl, rfl, rfl, w0⟩ := open_int Try.underlying3 (hval 0 3 v0 rfl rfl) h0
  obtain ⟨a1, rfl, rfl, rfl, w1⟩ := open_int Try.underlying3 (hval 1 3 v1 rfl rfl) h1
  clear hA0 hval0 hsz0 hsz
  refine (P.laws_FnExactCountLoopsWithArea.walk Pure.FnExactCountLoopsWithArea a0 a1 W w0 w1).mono fun e W' ⟨he, bel⟩ => ?_
  subst he
  exact ⟨_, rfl, _, _, _, [], _, [], hW', trodAll_mk1 (shut_bool Try.underlying4 _), (trodAll_cons_mk (shut_int Try.underlying3 w0) (trodAll_cons_mk (shut_int Try.underlying3 w1) trodAll_mk0)), rfl, bel.frame _, fun h => by cases h⟩
theorem over : Rows.fnExactCountLoopsWithAreaRow.holds Try.pinned (OpenSpec.ofChange Rows.fnExactCountLoopsWithAreaSpec) :=
  OpenClaim.holds_of_wide 5 Try.f5 rfl rfl rfl rfl rfl rfl rfl ⟨rfl, rfl, rfl, rfl, rfl⟩ rfl rfl rfl rfl rfl (by kernel_rfl) Try.func5 (by kernel_rfl)
    (of_decide_eq_true (by kernel_rfl)) (by unfold Func.isWrapper; first | (rw [if_pos (by decide +kernel)]; kernel_rfl) | (rw [if_neg (by decide +kernel)]; exact ⟨rfl, rfl⟩))
    (fun os started H enc _ => lifted os started H enc)
theorem proved : Rows.FnExactCountLoopsWithAreaSaid := over
end Go.Proofs.Ytbnkdfmomcmmaaa.fnExactCountLoopsWithArea
namespace Go.Proofs.Ytbnkdfmomcmmaaa
theorem fnExactCountLoopsWithArea_holds : Rows.FnExactCountLoopsWithAreaSaid := fnExactCountLoopsWithArea.proved
end Go.Proofs.Ytbnkdfmomcmmaaa

