/- For every input the law FnExactJoinFigures answers true: the program tells what the reference tells; no condition. (part 2 of the proof; the words of the kit's print tool and the texts of this seat, merged by a program) -/
import Derived.Test.YtjnajeplfgdklaaDoorMJF1
namespace Go.Proofs.YtjnajeplfgdklaaDoor.P
open Go.RowKit Go.Proofs.YtjnajeplfgdklaaDoorW.PrintWords Go.Proofs.YtjnajeplfgdklaaDoorW.PrintLast Go.Proofs.YtjnajeplfgdklaaDoorW.PrintMore
attribute [local go_sem] max2_int min2_int max_two min_two max_three min_three max_four min_four   -- for this text's walks alone
set_option linter.unusedVariables false
set_option linter.unusedSimpArgs false

def joinF_T8 : Bool × List (List Nat × List Nat) := (true, [([], []), ([0], [0]), ([], []), ([2, 1], [2]), ([1, 3, 3], [1, 3]), ([4], [4]), ([5], [5]), ([5], [5]), ([], []), ([8, 6, 4, 0, 1, 2, 3, 4, 5, 6, 8], [6, 8]), ([7, 9, 0, 1, 2, 3, 4, 5, 6, 7, 8, 9], [7])])
def joinF_B8 : List Nat := [0, 1, 0, 7, 15, 31, 63, 63, 0, 383, 1023]
theorem joinF_tab8 : rtab .any (opsOf Tryd.f3 8) = joinF_T8 := by kernel_rfl
theorem joinF_bits8 : waitsOk joinF_T8.2 joinF_B8 = true := by kernel_rfl
def joinF_T31 : Bool × List (List Nat × List Nat) := (true, [([], []), ([0], [0]), ([], []), ([2, 1], [2]), ([1, 3, 3], [1, 3]), ([4], [4]), ([5], [5]), ([5], [5]), ([], []), ([8, 6, 4, 0, 1, 2, 3, 4, 5, 6, 8], [6, 8]), ([7, 9, 0, 1, 2, 3, 4, 5, 6, 7, 8, 9], [7])])
def joinF_B31 : List Nat := [0, 1, 0, 7, 15, 31, 63, 63, 0, 383, 1023]
theorem joinF_tab31 : rtab .any (opsOf Tryd.f3 31) = joinF_T31 := by kernel_rfl
theorem joinF_bits31 : waitsOk joinF_T31.2 joinF_B31 = true := by kernel_rfl
set_option maxRecDepth 100000 in
set_option maxHeartbeats 8000000 in
theorem law_JoinFigures_no1 (a0_0 : Int) (a0_1 : Int) (A0_2 : Option Addr) (c0_2 : Nat) (l0_2 : List Int) (A0_3 : Option Addr) (c0_3 : Nat) (l0_3 : List Int) (a1_0 : Int) (a1_1 : Int) (A1_2 : Option Addr) (c1_2 : Nat) (l1_2 : List Int) (A1_3 : Option Addr) (c1_3 : Nat) (l1_3 : List Int) (w : World) (hr0_2 : Kd.C (Kd.int .i64) w A0_2 l0_2.length l0_2) (hc0_2 : l0_2.length ≤ c0_2) (hr0_3 : Kd.C (Kd.int .i64) w A0_3 l0_3.length l0_3) (hc0_3 : l0_3.length ≤ c0_3) (hr1_2 : Kd.C (Kd.int .i64) w A1_2 l1_2.length l1_2) (hc1_2 : l1_2.length ≤ c1_2) (hr1_3 : Kd.C (Kd.int .i64) w A1_3 l1_3.length l1_3) (hc1_3 : l1_3.length ≤ c1_3) (hl : l0_2.length ≤ 140737488355328) (hm : l0_3.length ≤ 140737488355328) (hbig : ¬ l0_2.length + l0_3.length ≤ 1000000) :
    Calls Tryd.prog 3 #[.agg #[.int .i64 a0_0, .int .i64 a0_1, .slice A0_2 l0_2.length c0_2, .slice A0_3 l0_3.length c0_3], .agg #[.int .i64 a1_0, .int .i64 a1_1, .slice A1_2 l1_2.length c1_2, .slice A1_3 l1_3.length c1_3]] w fun e w' => e = .returned (.bool true) ∧ Below w.heap.size w w' := by
  have hsz := Aside0.mk (szFigure_no a0_0 a0_1 l0_2 l0_3 hl hm hbig)
  have HR0_2 := Aside0.mk hr0_2
  have HC0_2 := Aside0.mk hc0_2
  have HR0_3 := Aside0.mk hr0_3
  have HC0_3 := Aside0.mk hc0_3
  have HR1_2 := Aside0.mk hr1_2
  have HC1_2 := Aside0.mk hc1_2
  have HR1_3 := Aside0.mk hr1_3
  have HC1_3 := Aside0.mk hc1_3
  clear hr0_2 hc0_2 hr0_3 hc0_3 hr1_2 hc1_2 hr1_3 hc1_3 hl hm hbig
  go_enter Tryd.func3, Tryd.ntmps3
  go_wp2_with (go_at_call 10; refine (laws_szFigure.calls _ _ _ _ l0_2 _ _ l0_3 _ (-1) _ ?s0A HC0_2.out ?s0B HC0_3.out hsz.out).mono ?_; (case s0A => first | exact Kd.C_alloc HR0_2.out _ | exact Kd.C_alloc (Kd.C_alloc HR0_2.out _) _ | exact Kd.C_below HR0_2.out HB.out); (case s0B => first | exact Kd.C_alloc HR0_3.out _ | exact Kd.C_alloc (Kd.C_alloc HR0_3.out _) _ | exact Kd.C_below HR0_3.out HB.out); rintro e w1 ⟨rfl, hb⟩)
  go_ret
  exact ⟨rfl, below_step (by repeat (first | exact Below.refl _ _ | apply below_alloc)) hb⟩
set_option maxRecDepth 100000 in
set_option maxHeartbeats 8000000 in
theorem law_JoinFigures_no2 (a0_0 : Int) (a0_1 : Int) (A0_2 : Option Addr) (c0_2 : Nat) (l0_2 : List Int) (A0_3 : Option Addr) (c0_3 : Nat) (l0_3 : List Int) (a1_0 : Int) (a1_1 : Int) (A1_2 : Option Addr) (c1_2 : Nat) (l1_2 : List Int) (A1_3 : Option Addr) (c1_3 : Nat) (l1_3 : List Int) (w : World) (hr0_2 : Kd.C (Kd.int .i64) w A0_2 l0_2.length l0_2) (hc0_2 : l0_2.length ≤ c0_2) (hr0_3 : Kd.C (Kd.int .i64) w A0_3 l0_3.length l0_3) (hc0_3 : l0_3.length ≤ c0_3) (hr1_2 : Kd.C (Kd.int .i64) w A1_2 l1_2.length l1_2) (hc1_2 : l1_2.length ≤ c1_2) (hr1_3 : Kd.C (Kd.int .i64) w A1_3 l1_3.length l1_3) (hc1_3 : l1_3.length ≤ c1_3) (hl : l1_2.length ≤ 140737488355328) (hm : l1_3.length ≤ 140737488355328) (hok : l0_2.length + l0_3.length ≤ 1000000) (hbig : ¬ l0_2.length + l0_3.length + l1_2.length + l1_3.length ≤ 1000000) :
    Calls Tryd.prog 3 #[.agg #[.int .i64 a0_0, .int .i64 a0_1, .slice A0_2 l0_2.length c0_2, .slice A0_3 l0_3.length c0_3], .agg #[.int .i64 a1_0, .int .i64 a1_1, .slice A1_2 l1_2.length c1_2, .slice A1_3 l1_3.length c1_3]] w fun e w' => e = .returned (.bool true) ∧ Below w.heap.size w w' := by
  have hsz := Aside0.mk (szFigure_ok a0_0 a0_1 l0_2 l0_3 hok)
  have hsz2 := Aside0.mk (szFigure_more_no a1_0 a1_1 l1_2 l1_3 (1000000 - (l0_2.length : Int) - (l0_3.length : Int)) (by omega) (by omega) hl hm (by omega))
  have hl0 : (0 : Int) ≤ 1000000 - (l0_2.length : Int) - (l0_3.length : Int) := by omega
  generalize hsl : 1000000 - (l0_2.length : Int) - (l0_3.length : Int) = sl at hsz hsz2 hl0
  clear hsl
  have HR0_2 := Aside0.mk hr0_2
  have HC0_2 := Aside0.mk hc0_2
  have HR0_3 := Aside0.mk hr0_3
  have HC0_3 := Aside0.mk hc0_3
  have HR1_2 := Aside0.mk hr1_2
  have HC1_2 := Aside0.mk hc1_2
  have HR1_3 := Aside0.mk hr1_3
  have HC1_3 := Aside0.mk hc1_3
  clear hr0_2 hc0_2 hr0_3 hc0_3 hr1_2 hc1_2 hr1_3 hc1_3 hl hm hok hbig
  have tok0 : True := trivial
  go_enter Tryd.func3, Tryd.ntmps3
  go_wp2_with (first
    | (go_at_call 10; have _t := tok0; refine (laws_szFigure.calls _ _ _ _ l0_2 _ _ l0_3 _ sl _ ?s0A HC0_2.out ?s0B HC0_3.out hsz.out).mono ?_; (case s0A => first | exact Kd.C_alloc HR0_2.out _ | exact Kd.C_alloc (Kd.C_alloc HR0_2.out _) _ | exact Kd.C_below HR0_2.out HB.out); (case s0B => first | exact Kd.C_alloc HR0_3.out _ | exact Kd.C_alloc (Kd.C_alloc HR0_3.out _) _ | exact Kd.C_below HR0_3.out HB.out); rintro e w1 ⟨rfl, hb⟩; have P0 := Aside0.mk (blk_keep (g := w.heap.size + 1) (by have h := heap_alloc_new (w.alloc (.cells #[.int .i64 a0_0, .int .i64 a0_1, .slice A0_2 l0_2.length c0_2, .slice A0_3 l0_3.length c0_3] 24)) (.cells #[.int .i64 a1_0, .int .i64 a1_1, .slice A1_2 l1_2.length c1_2, .slice A1_3 l1_3.length c1_3] 24); simpa using h) hb); have HB : Aside0 (Below w.heap.size w w1) := ⟨below_step (by repeat (first | exact Below.refl _ _ | apply below_alloc)) hb⟩; clear hb; have p0 : w1.cell? ⟨w.heap.size + 1, 0, none⟩ = some (.int .i64 a1_0) := (blk_cell P0.out 0).trans rfl; have p1 : w1.cell? ⟨w.heap.size + 1, 1, none⟩ = some (.int .i64 a1_1) := (blk_cell P0.out 1).trans rfl; have p2 : w1.cell? ⟨w.heap.size + 1, 2, none⟩ = some (.slice A1_2 l1_2.length c1_2) := (blk_cell P0.out 2).trans rfl; have p3 : w1.cell? ⟨w.heap.size + 1, 3, none⟩ = some (.slice A1_3 l1_3.length c1_3) := (blk_cell P0.out 3).trans rfl; clear _t tok0; have tok1 : True := trivial)
    | (go_at_call 10; have _t := tok1; refine (laws_szFigure.calls _ _ _ _ l1_2 _ _ l1_3 _ (-1) _ ?s1A HC1_2.out ?s1B HC1_3.out hsz2.out).mono ?_; (case s1A => first | exact Kd.C_alloc HR1_2.out _ | exact Kd.C_alloc (Kd.C_alloc HR1_2.out _) _ | exact Kd.C_below HR1_2.out HB.out); (case s1B => first | exact Kd.C_alloc HR1_3.out _ | exact Kd.C_alloc (Kd.C_alloc HR1_3.out _) _ | exact Kd.C_below HR1_3.out HB.out); rintro e w2 ⟨rfl, hb⟩; have HBe := Aside0.mk (below_step HB.out hb); clear hb))
  go_ret
  exact ⟨rfl, HBe.out⟩

set_option maxRecDepth 100000 in
set_option maxHeartbeats 64000000 in
theorem law_JoinFigures_yes (a0_0 : Int) (a0_1 : Int) (A0_2 : Option Addr) (c0_2 : Nat) (l0_2 : List Int) (A0_3 : Option Addr) (c0_3 : Nat) (l0_3 : List Int) (a1_0 : Int) (a1_1 : Int) (A1_2 : Option Addr) (c1_2 : Nat) (l1_2 : List Int) (A1_3 : Option Addr) (c1_3 : Nat) (l1_3 : List Int) (KK : Nat) (R0 R1 : Int) (L2 L3 : List Int) (R2 : Bool) (G : World → Prop) (hG : ∀ w w', G w → Below w.heap.size w w' → G w') (w : World) (hr0_2 : Kd.C (Kd.int .i64) w A0_2 l0_2.length l0_2) (hc0_2 : l0_2.length ≤ c0_2) (hr0_3 : Kd.C (Kd.int .i64) w A0_3 l0_3.length l0_3) (hc0_3 : l0_3.length ≤ c0_3) (hr1_2 : Kd.C (Kd.int .i64) w A1_2 l1_2.length l1_2) (hc1_2 : l1_2.length ≤ c1_2) (hr1_3 : Kd.C (Kd.int .i64) w A1_3 l1_3.length l1_3) (hc1_3 : l1_3.length ≤ c1_3) (hGw : G w) (hbig : l0_2.length + l0_3.length + l1_2.length + l1_3.length ≤ 1000000) (hRb : L2.length + L3.length ≤ 1000000) (hK : 4000000 < KK)
    (hspec : AnswersF2 G 11 a0_0 a0_1 l0_2 l0_3 a1_0 a1_1 l1_2 l1_3 R0 R1 L2 L3 R2) (himpl : AnswersF2 G 13 a0_0 a0_1 l0_2 l0_3 a1_0 a1_1 l1_2 l1_3 R0 R1 L2 L3 R2) :
    Calls Tryd.prog 3 #[.agg #[.int .i64 a0_0, .int .i64 a0_1, .slice A0_2 l0_2.length c0_2, .slice A0_3 l0_3.length c0_3], .agg #[.int .i64 a1_0, .int .i64 a1_1, .slice A1_2 l1_2.length c1_2, .slice A1_3 l1_3.length c1_3]] w fun e w' => e = .returned (.bool true) ∧ Below w.heap.size w w' := by
  have hsz := Aside0.mk (szFigure_ok a0_0 a0_1 l0_2 l0_3 (by omega))
  have hsz2 := Aside0.mk (szFigure_more_ok a1_0 a1_1 l1_2 l1_3 (1000000 - (l0_2.length : Int) - (l0_3.length : Int)) (by omega) (by omega))
  have hT0 := Aside0.mk (toFigure_f a0_0 a0_1 l0_2 l0_3 false (by omega) (by omega) KK (by omega))
  have hT1 := Aside0.mk (toFigure_f a0_0 a0_1 l0_2 l0_3 true (by omega) (by omega) KK (by omega))
  have hV0 := Aside0.mk (toFigure_f a1_0 a1_1 l1_2 l1_3 false (by omega) (by omega) KK (by omega))
  have hV1 := Aside0.mk (toFigure_f a1_0 a1_1 l1_2 l1_3 true (by omega) (by omega) KK (by omega))
  have hM := Aside0.mk (markFigure_f a0_0 a0_1 l0_2 l0_3 (by omega) KK (by omega))
  have hM2 := Aside0.mk (markFigure_more a1_0 a1_1 l1_2 l1_3 (101 + (l0_2.length : Int) + (l0_3.length : Int)) (by omega) (by omega) KK (by omega))
  have hE := Aside0.mk (eqFigure_refl R0 R1 L2 L3 (by omega) (by omega) KK hK)
  have hMC := Aside0.mk (markFigure_f R0 R1 L2 L3 hRb KK (by omega))
  have hHC := Aside0.mk (heldFigure_f R0 R1 L2.length L3.length hRb KK hK)
  have HS : Aside0 (∀ (A2 : Option Addr) (c2 : Nat) (A3 : Option Addr) (c3 : Nat) (B2 : Option Addr) (d2 : Nat) (B3 : Option Addr) (d3 : Nat) (W : World), Kd.C (Kd.int .i64) W A2 l0_2.length l0_2 → l0_2.length ≤ c2 → Kd.C (Kd.int .i64) W A3 l0_3.length l0_3 → l0_3.length ≤ c3 → Kd.C (Kd.int .i64) W B2 l1_2.length l1_2 → l1_2.length ≤ d2 → Kd.C (Kd.int .i64) W B3 l1_3.length l1_3 → l1_3.length ≤ d3 → G W → Calls Tryd.prog 11 #[.agg #[.int .i64 a0_0, .int .i64 a0_1, .slice A2 l0_2.length c2, .slice A3 l0_3.length c3], .agg #[.int .i64 a1_0, .int .i64 a1_1, .slice B2 l1_2.length d2, .slice B3 l1_3.length d3]] W fun e w' => ∃ v2_ v3_ : Value, e = .returned (.tuple #[.agg #[.int .i64 R0, .int .i64 R1, v2_, v3_], .bool R2]) ∧ Kd.R (Kd.int .i64) 3 w' W.heap.size (fun k_ => some k_ ≠ (v3_ : Value).ownBlock) v2_ L2 ∧ Kd.R (Kd.int .i64) 3 w' W.heap.size (fun k_ => some k_ ≠ (v2_ : Value).ownBlock) v3_ L3 ∧ Below W.heap.size W w') := ⟨hspec⟩
  have HI : Aside0 (∀ (A2 : Option Addr) (c2 : Nat) (A3 : Option Addr) (c3 : Nat) (B2 : Option Addr) (d2 : Nat) (B3 : Option Addr) (d3 : Nat) (W : World), Kd.C (Kd.int .i64) W A2 l0_2.length l0_2 → l0_2.length ≤ c2 → Kd.C (Kd.int .i64) W A3 l0_3.length l0_3 → l0_3.length ≤ c3 → Kd.C (Kd.int .i64) W B2 l1_2.length l1_2 → l1_2.length ≤ d2 → Kd.C (Kd.int .i64) W B3 l1_3.length l1_3 → l1_3.length ≤ d3 → G W → Calls Tryd.prog 13 #[.agg #[.int .i64 a0_0, .int .i64 a0_1, .slice A2 l0_2.length c2, .slice A3 l0_3.length c3], .agg #[.int .i64 a1_0, .int .i64 a1_1, .slice B2 l1_2.length d2, .slice B3 l1_3.length d3]] W fun e w' => ∃ v2_ v3_ : Value, e = .returned (.tuple #[.agg #[.int .i64 R0, .int .i64 R1, v2_, v3_], .bool R2]) ∧ Kd.R (Kd.int .i64) 3 w' W.heap.size (fun k_ => some k_ ≠ (v3_ : Value).ownBlock) v2_ L2 ∧ Kd.R (Kd.int .i64) 3 w' W.heap.size (fun k_ => some k_ ≠ (v2_ : Value).ownBlock) v3_ L3 ∧ Below W.heap.size W w') := ⟨himpl⟩
  have HGT : Aside0 (∀ W, Below w.heap.size w W → G W) := ⟨fun W h => hG w W hGw h⟩
  have HL2 : Aside0 (l0_2.length ≤ 1000000) := ⟨by omega⟩
  have HL3 : Aside0 (l0_3.length ≤ 1000000) := ⟨by omega⟩
  have HL4 : Aside0 (l1_2.length ≤ 1000000) := ⟨by omega⟩
  have HL5 : Aside0 (l1_3.length ≤ 1000000) := ⟨by omega⟩
  have hl0 : (0 : Int) ≤ 1000000 - (l0_2.length : Int) - (l0_3.length : Int) := by omega
  have hl2 : (0 : Int) ≤ 1000000 - (l0_2.length : Int) - (l0_3.length : Int) - (l1_2.length : Int) - (l1_3.length : Int) := by omega
  have hk0 : (0 : Int) ≤ 101 + (l0_2.length : Int) + (l0_3.length : Int) + (l1_2.length : Int) + (l1_3.length : Int) := by omega
  have hm0 : (0 : Int) ≤ 101 + (L2.length : Int) + (L3.length : Int) := by omega
  generalize hmm : 101 + (L2.length : Int) + (L3.length : Int) = mm at hMC hHC hm0
  generalize hmk2 : 101 + (l0_2.length : Int) + (l0_3.length : Int) + (l1_2.length : Int) + (l1_3.length : Int) = mk2 at hM2 hk0
  generalize hmk : 101 + (l0_2.length : Int) + (l0_3.length : Int) = mk at hM hM2
  generalize hsl2 : 1000000 - (l0_2.length : Int) - (l0_3.length : Int) - (l1_2.length : Int) - (l1_3.length : Int) = sl2 at hsz2 hl2
  generalize hsl : 1000000 - (l0_2.length : Int) - (l0_3.length : Int) = sl at hsz hsz2 hl0
  clear hmm hmk hmk2 hsl hsl2
  have HR0_2 := Aside0.mk hr0_2
  have HC0_2 := Aside0.mk hc0_2
  have HR0_3 := Aside0.mk hr0_3
  have HC0_3 := Aside0.mk hc0_3
  have HR1_2 := Aside0.mk hr1_2
  have HC1_2 := Aside0.mk hc1_2
  have HR1_3 := Aside0.mk hr1_3
  have HC1_3 := Aside0.mk hc1_3
  clear hr0_2 hc0_2 hr0_3 hc0_3 hr1_2 hc1_2 hr1_3 hc1_3 hbig hRb hK hspec himpl hG hGw
  have tok0 : True := trivial
  go_enter Tryd.func3, Tryd.ntmps3

  go_wp2_with (first
    | (go_at_call 10; have _t := tok0; (with_reducible refine (laws_szFigure.calls _ _ _ _ l0_2 _ _ l0_3 _ sl _ ?s0A HC0_2.out ?s0B HC0_3.out hsz.out).mono ?_); (case s0A => first | exact Kd.C_alloc HR0_2.out _ | exact Kd.C_alloc (Kd.C_alloc HR0_2.out _) _ | exact Kd.C_below HR0_2.out HB.out); (case s0B => first | exact Kd.C_alloc HR0_3.out _ | exact Kd.C_alloc (Kd.C_alloc HR0_3.out _) _ | exact Kd.C_below HR0_3.out HB.out); rintro e w1 ⟨rfl, hb⟩; have Q0 : Aside0 (w1.heap[w.heap.size]? = some (.cells #[.int .i64 a0_0, .int .i64 a0_1, .slice A0_2 l0_2.length c0_2, .slice A0_3 l0_3.length c0_3] 24 (0, 0))) := ⟨blk_keep (by have h := blk_alloc (heap_alloc_new w (.cells #[.int .i64 a0_0, .int .i64 a0_1, .slice A0_2 l0_2.length c0_2, .slice A0_3 l0_3.length c0_3] 24)) (.cells #[.int .i64 a1_0, .int .i64 a1_1, .slice A1_2 l1_2.length c1_2, .slice A1_3 l1_3.length c1_3] 24); exact h) hb⟩;
       have P0 : Aside0 (w1.heap[w.heap.size + 1]? = some (.cells #[.int .i64 a1_0, .int .i64 a1_1, .slice A1_2 l1_2.length c1_2, .slice A1_3 l1_3.length c1_3] 24 (0, 0))) := ⟨blk_keep (by have h := heap_alloc_new (w.alloc (.cells #[.int .i64 a0_0, .int .i64 a0_1, .slice A0_2 l0_2.length c0_2, .slice A0_3 l0_3.length c0_3] 24)) (.cells #[.int .i64 a1_0, .int .i64 a1_1, .slice A1_2 l1_2.length c1_2, .slice A1_3 l1_3.length c1_3] 24); simpa using h) hb⟩;
       have HB : Aside0 (Below w.heap.size w w1) := ⟨below_step (by repeat (first | exact Below.refl _ _ | apply below_alloc)) hb⟩;
       clear hb; have q0 : w1.cell? ⟨w.heap.size, 0, none⟩ = some (.int .i64 a0_0) := (blk_cell Q0.out 0).trans rfl; have q1 : w1.cell? ⟨w.heap.size, 1, none⟩ = some (.int .i64 a0_1) := (blk_cell Q0.out 1).trans rfl; have q2 : w1.cell? ⟨w.heap.size, 2, none⟩ = some (.slice A0_2 l0_2.length c0_2) := (blk_cell Q0.out 2).trans rfl; have q3 : w1.cell? ⟨w.heap.size, 3, none⟩ = some (.slice A0_3 l0_3.length c0_3) := (blk_cell Q0.out 3).trans rfl; have p0 : w1.cell? ⟨w.heap.size + 1, 0, none⟩ = some (.int .i64 a1_0) := (blk_cell P0.out 0).trans rfl; have p1 : w1.cell? ⟨w.heap.size + 1, 1, none⟩ = some (.int .i64 a1_1) := (blk_cell P0.out 1).trans rfl; have p2 : w1.cell? ⟨w.heap.size + 1, 2, none⟩ = some (.slice A1_2 l1_2.length c1_2) := (blk_cell P0.out 2).trans rfl; have p3 : w1.cell? ⟨w.heap.size + 1, 3, none⟩ = some (.slice A1_3 l1_3.length c1_3) := (blk_cell P0.out 3).trans rfl; clear _t tok0; have tok1 : True := trivial)
    | (go_at_call 10; have _t := tok1; (with_reducible refine (laws_szFigure.calls _ _ _ _ l1_2 _ _ l1_3 _ sl2 _ ?s1A HC1_2.out ?s1B HC1_3.out hsz2.out).mono ?_); (case s1A => first | exact Kd.C_alloc HR1_2.out _ | exact Kd.C_alloc (Kd.C_alloc HR1_2.out _) _ | exact Kd.C_below HR1_2.out HB.out); (case s1B => first | exact Kd.C_alloc HR1_3.out _ | exact Kd.C_alloc (Kd.C_alloc HR1_3.out _) _ | exact Kd.C_below HR1_3.out HB.out); rintro e w2 ⟨rfl, hb⟩; have n0_ := Aside0.mk (below_step HB.out hb);
       have n1_ := Aside0.mk (blk_keep Q0.out hb);
       have n2_ := Aside0.mk (blk_keep P0.out hb);
       clear q0 q1 q2 q3 p0 p1 p2 p3 HB Q0 P0;
       have HB := n0_;
       have Q0 := n1_;
       have P0 := n2_;
       clear n0_ n1_ n2_;
       have q0 : w2.cell? ⟨w.heap.size, 0, none⟩ = some (.int .i64 a0_0) := (blk_cell Q0.out 0).trans rfl;
       have q1 : w2.cell? ⟨w.heap.size, 1, none⟩ = some (.int .i64 a0_1) := (blk_cell Q0.out 1).trans rfl;
       have q2 : w2.cell? ⟨w.heap.size, 2, none⟩ = some (.slice A0_2 l0_2.length c0_2) := (blk_cell Q0.out 2).trans rfl;
       have q3 : w2.cell? ⟨w.heap.size, 3, none⟩ = some (.slice A0_3 l0_3.length c0_3) := (blk_cell Q0.out 3).trans rfl;
       have p0 : w2.cell? ⟨w.heap.size + 1, 0, none⟩ = some (.int .i64 a1_0) := (blk_cell P0.out 0).trans rfl;
       have p1 : w2.cell? ⟨w.heap.size + 1, 1, none⟩ = some (.int .i64 a1_1) := (blk_cell P0.out 1).trans rfl;
       have p2 : w2.cell? ⟨w.heap.size + 1, 2, none⟩ = some (.slice A1_2 l1_2.length c1_2) := (blk_cell P0.out 2).trans rfl;
       have p3 : w2.cell? ⟨w.heap.size + 1, 3, none⟩ = some (.slice A1_3 l1_3.length c1_3) := (blk_cell P0.out 3).trans rfl;
       clear hb; clear _t tok1; have tok2 : True := trivial))
  have n0_ := Aside0.mk (below_drew1 HB.out)
  have n1_ := Aside0.mk (blk_drew Q0.out)
  have n2_ := Aside0.mk (blk_drew P0.out)
  clear q0 q1 q2 q3 p0 p1 p2 p3 HB Q0 P0
  have HB := n0_
  have Q0 := n1_
  have P0 := n2_
  clear n0_ n1_ n2_
  refine start_ (n := 11) (S := fun w' => w'.cell? ⟨w.heap.size, 0, none⟩ = some (.int .i64 a0_0) ∧ w'.cell? ⟨w.heap.size, 1, none⟩ = some (.int .i64 a0_1) ∧ w'.cell? ⟨w.heap.size, 2, none⟩ = some (.slice A0_2 l0_2.length c0_2) ∧ w'.cell? ⟨w.heap.size, 3, none⟩ = some (.slice A0_3 l0_3.length c0_3) ∧ w'.cell? ⟨w.heap.size + 1, 0, none⟩ = some (.int .i64 a1_0) ∧ w'.cell? ⟨w.heap.size + 1, 1, none⟩ = some (.int .i64 a1_1) ∧ w'.cell? ⟨w.heap.size + 1, 2, none⟩ = some (.slice A1_2 l1_2.length c1_2) ∧ w'.cell? ⟨w.heap.size + 1, 3, none⟩ = some (.slice A1_3 l1_3.length c1_3)) (ds := []) #[Ff, Ff, Ff, Ff, Ff, Ff, Ff, Ff, Ff, Ff, Ff] (by kernel_rfl) rfl rfl ⟨(blk_cell Q0.out 0).trans rfl, (blk_cell Q0.out 1).trans rfl, (blk_cell Q0.out 2).trans rfl, (blk_cell Q0.out 3).trans rfl, (blk_cell P0.out 0).trans rfl, (blk_cell P0.out 1).trans rfl, (blk_cell P0.out 2).trans rfl, (blk_cell P0.out 3).trans rfl⟩ (fun hHeld => ?_)
  refine with_tabW joinF_tab8 joinF_bits8 (fun HT_ HW_ => ?_)
  generalize w2.drew = W5 at HB Q0 P0 hHeld ⊢
  have hS : ∀ w', Below W5.heap.size W5 w' → w'.cell? ⟨w.heap.size, 0, none⟩ = some (.int .i64 a0_0) ∧ w'.cell? ⟨w.heap.size, 1, none⟩ = some (.int .i64 a0_1) ∧ w'.cell? ⟨w.heap.size, 2, none⟩ = some (.slice A0_2 l0_2.length c0_2) ∧ w'.cell? ⟨w.heap.size, 3, none⟩ = some (.slice A0_3 l0_3.length c0_3) ∧ w'.cell? ⟨w.heap.size + 1, 0, none⟩ = some (.int .i64 a1_0) ∧ w'.cell? ⟨w.heap.size + 1, 1, none⟩ = some (.int .i64 a1_1) ∧ w'.cell? ⟨w.heap.size + 1, 2, none⟩ = some (.slice A1_2 l1_2.length c1_2) ∧ w'.cell? ⟨w.heap.size + 1, 3, none⟩ = some (.slice A1_3 l1_3.length c1_3) := fun w' hb => ⟨(hb.cell (World.block_lt_of_cell? W5 _ (hHeld.1))).trans (hHeld.1), (hb.cell (World.block_lt_of_cell? W5 _ (hHeld.2.1))).trans (hHeld.2.1), (hb.cell (World.block_lt_of_cell? W5 _ (hHeld.2.2.1))).trans (hHeld.2.2.1), (hb.cell (World.block_lt_of_cell? W5 _ (hHeld.2.2.2.1))).trans (hHeld.2.2.2.1), (hb.cell (World.block_lt_of_cell? W5 _ (hHeld.2.2.2.2.1))).trans (hHeld.2.2.2.2.1), (hb.cell (World.block_lt_of_cell? W5 _ (hHeld.2.2.2.2.2.1))).trans (hHeld.2.2.2.2.2.1), (hb.cell (World.block_lt_of_cell? W5 _ (hHeld.2.2.2.2.2.2.1))).trans (hHeld.2.2.2.2.2.2.1), (hb.cell (World.block_lt_of_cell? W5 _ (hHeld.2.2.2.2.2.2.2))).trans (hHeld.2.2.2.2.2.2.2)⟩
  have HB5 : Aside0 (Below W5.heap.size W5 W5) := ⟨Below.refl _ _⟩
  refine tZ (i := 0) (N := some 28) #[Tt, Ff, Ff, Ff, Ff, Ff, Ff, Ff, Ff, Ff, Ff] ?_
  refine tZ (i := 2) (N := some 30) #[Tt, Ff, Tt, Ff, Ff, Ff, Ff, Ff, Ff, Ff, Ff] ?_
  refine join_ (σ := Value × Value × Value × Value × Value × Value × Nat) 2 #[Tt, Tt, Tt, Tt, Tt, Tt, Tt, Tt, Tt, Ff, Ff] (fun s_ => [(29, .agg #[.int .i64 a0_0, .int .i64 a0_1, s_.1, s_.2.1]), (31, .agg #[.int .i64 a1_0, .int .i64 a1_1, s_.2.2.1, s_.2.2.2.1]), (32, .tuple #[.agg #[.int .i64 R0, .int .i64 R1, s_.2.2.2.2.1, s_.2.2.2.2.2.1], .bool R2]), (27, .tuple #[.agg #[.int .i64 R0, .int .i64 R1, s_.2.2.2.2.1, s_.2.2.2.2.2.1], .bool R2]), (33, .agg #[.int .i64 R0, .int .i64 R1, s_.2.2.2.2.1, s_.2.2.2.2.2.1]), (34, .bool R2), (6, .pointer (some ⟨s_.2.2.2.2.2.2, 0, none⟩))]) (fun s_ w' => Below W5.heap.size W5 w' ∧ Kd.R (Kd.int .i64) 3 w' W5.heap.size (fun k_ => some k_ ≠ (s_.2.2.2.2.2.1 : Value).ownBlock) s_.2.2.2.2.1 L2 ∧ Kd.R (Kd.int .i64) 3 w' W5.heap.size (fun k_ => some k_ ≠ (s_.2.2.2.2.1 : Value).ownBlock) s_.2.2.2.2.2.1 L3 ∧ w'.heap[s_.2.2.2.2.2.2]? = some (.cells #[.int .i64 0, .int .i64 0, .slice none 0 0, .slice none 0 0] 26 (0, 0)) ∧ W5.heap.size ≤ s_.2.2.2.2.2.2) ?_ ?_
  rotate_left
  · intro hCont
    have hbs := HB5.out.size
    refine two_ (i := 1) (j := 8) (Ni := some 29) (Nj := some 6) #[Tt, Tt, Tt, Ff, Ff, Ff, Ff, Ff, Ff, Ff, Ff] #[Tt, Ff, Tt, Ff, Ff, Ff, Ff, Ff, Tt, Ff, Ff] rfl rfl rfl rfl (two_of HT_.out (by kernel_rfl)) (by decide) (by decide) (fun K hK => ?_) (fun K hK => ?_)
    · refine goes_ Tryd.func12 (by kernel_rfl) rfl #[.agg #[.int .i64 a0_0, .int .i64 a0_1, .slice A0_2 l0_2.length c0_2, .slice A0_3 l0_3.length c0_3], .bool false] (by rfl) rfl rfl (by (try simp only [List.map_toArray, List.map_cons, List.map_nil]); first | done | rfl) ?_
      with_reducible refine (laws_toFigure.calls KK a0_0 a0_1 A0_2 c0_2 l0_2 A0_3 c0_3 l0_3 false a0_0 a0_1 l0_2 l0_3 _ (Kd.C_below HR0_2.out (below_step HB.out HB5.out)) HC0_2.out (Kd.C_below HR0_3.out (below_step HB.out HB5.out)) HC0_3.out hT0.out).mono ?_
      rintro e v6 ⟨vu, vv, rfl, hou, hov, hb⟩
      refine ⟨_, rfl, ?_⟩
      have n0_ := Aside0.mk (below_step HB5.out hb)
      have m0_ := Aside0.mk (Kd.R_lower hou HB5.out.size)
      have m1_ := Aside0.mk (Kd.R_lower hov HB5.out.size)
      clear HB5
      have HB5 := n0_
      have HU2 := m0_
      have HU3 := m1_
      clear n0_ m0_ m1_
      clear hou hov hb
      obtain ⟨B2, d2, rfl⟩ := Kd.R_slice HU2.out
      obtain ⟨B3, d3, rfl⟩ := Kd.R_slice HU3.out
      refine hK.out _ _ (hS _ HB5.out) (fun hHeld => ?_)
      clear hK K
      refine norm_ (a' := _) ap_ ?_
      have hbs := HB5.out.size
      refine two_ (i := 3) (j := 8) (Ni := some 31) (Nj := some 6) #[Tt, Tt, Tt, Tt, Ff, Ff, Ff, Ff, Ff, Ff, Ff] #[Tt, Tt, Tt, Ff, Ff, Ff, Ff, Ff, Tt, Ff, Ff] rfl rfl rfl rfl (two_of HT_.out (by kernel_rfl)) (by decide) (by decide) (fun K hK => ?_) (fun K hK => ?_)
      · refine goes_ Tryd.func12 (by kernel_rfl) rfl #[.agg #[.int .i64 a1_0, .int .i64 a1_1, .slice A1_2 l1_2.length c1_2, .slice A1_3 l1_3.length c1_3], .bool false] (by rfl) rfl rfl (by (try simp only [List.map_toArray, List.map_cons, List.map_nil]); first | done | rfl) ?_
        with_reducible refine (laws_toFigure.calls KK a1_0 a1_1 A1_2 c1_2 l1_2 A1_3 c1_3 l1_3 false a1_0 a1_1 l1_2 l1_3 _ (Kd.C_below HR1_2.out (below_step HB.out HB5.out)) HC1_2.out (Kd.C_below HR1_3.out (below_step HB.out HB5.out)) HC1_3.out hV0.out).mono ?_
        rintro e v7 ⟨vu, vv, rfl, hou, hov, hb⟩
        refine ⟨_, rfl, ?_⟩
        have n0_ := Aside0.mk (below_step HB5.out hb)
        have n1_ := Aside0.mk (Kd.R_below HU2.out hb)
        have n2_ := Aside0.mk (Kd.R_below HU3.out hb)
        have m0_ := Aside0.mk (Kd.R_lower hou HB5.out.size)
        have m1_ := Aside0.mk (Kd.R_lower hov HB5.out.size)
        clear HB5 HU2 HU3
        have HB5 := n0_
        have HU2 := n1_
        have HU3 := n2_
        have HU4 := m0_
        have HU5 := m1_
        clear n0_ n1_ n2_ m0_ m1_
        clear hou hov hb
        obtain ⟨B4, d4, rfl⟩ := Kd.R_slice HU4.out
        obtain ⟨B5, d5, rfl⟩ := Kd.R_slice HU5.out
        refine hK.out _ _ (hS _ HB5.out) (fun hHeld => ?_)
        clear hK K
        refine norm_ (a' := _) ap_ ?_
        have hbs := HB5.out.size
        refine two_ (i := 4) (j := 8) (Ni := some 32) (Nj := some 6) #[Tt, Tt, Tt, Tt, Tt, Ff, Ff, Ff, Ff, Ff, Ff] #[Tt, Tt, Tt, Tt, Ff, Ff, Ff, Ff, Tt, Ff, Ff] rfl rfl rfl rfl (two_of HT_.out (by kernel_rfl)) (by decide) (by decide) (fun K hK => ?_) (fun K hK => ?_)
        · refine goes_ Tryd.func11 (by kernel_rfl) rfl #[.agg #[.int .i64 a0_0, .int .i64 a0_1, .slice B2 l0_2.length d2, .slice B3 l0_3.length d3], .agg #[.int .i64 a1_0, .int .i64 a1_1, .slice B4 l1_2.length d4, .slice B5 l1_3.length d5]] (by rfl) rfl rfl (by (try simp only [List.map_toArray, List.map_cons, List.map_nil]); first | done | rfl) ?_
          with_reducible refine (HS.out B2 d2 B3 d3 B4 d4 B5 d5 _ (Kd.R_reads' HU2.out).2.2 (Kd.R_reads' HU2.out).2.1 (Kd.R_reads' HU3.out).2.2 (Kd.R_reads' HU3.out).2.1 (Kd.R_reads' HU4.out).2.2 (Kd.R_reads' HU4.out).2.1 (Kd.R_reads' HU5.out).2.2 (Kd.R_reads' HU5.out).2.1 (HGT.out _ (below_step HB.out HB5.out))).mono ?_
          rintro e v8 ⟨vp, vq, rfl, hop, hoq, hb⟩
          refine ⟨_, rfl, ?_⟩
          have n0_ := Aside0.mk (below_step HB5.out hb)
          have n1_ := Aside0.mk (Kd.R_below HU2.out hb)
          have n2_ := Aside0.mk (Kd.R_below HU3.out hb)
          have n3_ := Aside0.mk (Kd.R_below HU4.out hb)
          have n4_ := Aside0.mk (Kd.R_below HU5.out hb)
          have m0_ := Aside0.mk (Kd.R_lower hop HB5.out.size)
          have m1_ := Aside0.mk (Kd.R_lower hoq HB5.out.size)
          clear HB5 HU2 HU3 HU4 HU5
          have HB5 := n0_
          have HU2 := n1_
          have HU3 := n2_
          have HU4 := n3_
          have HU5 := n4_
          have HP := m0_
          have HQ := m1_
          clear n0_ n1_ n2_ n3_ n4_ m0_ m1_
          clear hop hoq hb
          refine hK.out _ _ (hS _ HB5.out) (fun hHeld => ?_)
          clear hK K
          refine norm_ (a' := _) ap_ ?_
          refine pZ (i := 5) (N := some 27) #[Tt, Tt, Tt, Tt, Tt, Tt, Ff, Ff, Ff, Ff, Ff] ?_
          refine pZ (i := 6) (N := some 33) #[Tt, Tt, Tt, Tt, Tt, Tt, Tt, Ff, Ff, Ff, Ff] ?_
          refine pZ (i := 7) (N := some 34) #[Tt, Tt, Tt, Tt, Tt, Tt, Tt, Tt, Ff, Ff, Ff] ?_
          have hbs := HB5.out.size
          refine one_ (i := 8) (N := some 6) #[Tt, Tt, Tt, Tt, Tt, Tt, Tt, Tt, Tt, Ff, Ff] rfl rfl (one_of HT_.out (by kernel_rfl)) (by decide) (fun K hK => ?_)
          refine box_step ?hg (N := 6) ?hd (cs := #[.int .i64 0, .int .i64 0, .slice none 0 0, .slice none 0 0]) (t := 26) ?hr ?_; (case hd => rfl); (case hg => rfl); (case hr => first | (go_simp; done) | (go_simp; rfl))
          intro b6 hg v9 hbox hb
          have GB6 : Aside0 (W5.heap.size ≤ b6) := ⟨by rw [hg]; exact hbs⟩
          clear hg hbs
          have n0_ := Aside0.mk (below_step HB5.out hb)
          have n1_ := Aside0.mk (Kd.R_below HU2.out hb)
          have n2_ := Aside0.mk (Kd.R_below HU3.out hb)
          have n3_ := Aside0.mk (Kd.R_below HU4.out hb)
          have n4_ := Aside0.mk (Kd.R_below HU5.out hb)
          have n5_ := Aside0.mk (Kd.R_below HP.out hb)
          have n6_ := Aside0.mk (Kd.R_below HQ.out hb)
          have m0_ := Aside0.mk (hbox)
          clear HB5 HU2 HU3 HU4 HU5 HP HQ
          have HB5 := n0_
          have HU2 := n1_
          have HU3 := n2_
          have HU4 := n3_
          have HU5 := n4_
          have HP := n5_
          have HQ := n6_
          have BK6 := m0_
          clear n0_ n1_ n2_ n3_ n4_ n5_ n6_ m0_
          clear hb hbox
          refine hK.out _ _ (hS _ HB5.out) (fun hHeld => ?_)
          clear hK K
          refine norm_ (a' := _) ap_ ?_
          exact norm_ (by simp only [putAll, Act.put, List.setIfInBounds_toArray, List.set_cons_zero, List.set_cons_succ]) (hCont (.slice B2 l0_2.length d2, .slice B3 l0_3.length d3, .slice B4 l1_2.length d4, .slice B5 l1_3.length d5, vp, vq, b6) _ ⟨HB5.out, HP.out, HQ.out, BK6.out, GB6.out⟩)
        · refine box_step ?hg (N := 6) ?hd (cs := #[.int .i64 0, .int .i64 0, .slice none 0 0, .slice none 0 0]) (t := 26) ?hr ?_; (case hd => rfl); (case hg => rfl); (case hr => first | (go_simp; done) | (go_simp; rfl))
          intro b6 hg v8 hbox hb
          have GB6 : Aside0 (W5.heap.size ≤ b6) := ⟨by rw [hg]; exact hbs⟩
          clear hg hbs
          have n0_ := Aside0.mk (below_step HB5.out hb)
          have n1_ := Aside0.mk (Kd.R_below HU2.out hb)
          have n2_ := Aside0.mk (Kd.R_below HU3.out hb)
          have n3_ := Aside0.mk (Kd.R_below HU4.out hb)
          have n4_ := Aside0.mk (Kd.R_below HU5.out hb)
          have m0_ := Aside0.mk (hbox)
          clear HB5 HU2 HU3 HU4 HU5
          have HB5 := n0_
          have HU2 := n1_
          have HU3 := n2_
          have HU4 := n3_
          have HU5 := n4_
          have BK6 := m0_
          clear n0_ n1_ n2_ n3_ n4_ m0_
          clear hb hbox
          refine hK.out _ _ (hS _ HB5.out) (fun hHeld => ?_)
          clear hK K
          refine norm_ (a' := _) ap_ ?_
          refine one_ (i := 4) (N := some 32) #[Tt, Tt, Tt, Tt, Tt, Ff, Ff, Ff, Tt, Ff, Ff] rfl rfl (one_of HT_.out (by kernel_rfl)) (by decide) (fun K hK => ?_)
          refine goes_ Tryd.func11 (by kernel_rfl) rfl #[.agg #[.int .i64 a0_0, .int .i64 a0_1, .slice B2 l0_2.length d2, .slice B3 l0_3.length d3], .agg #[.int .i64 a1_0, .int .i64 a1_1, .slice B4 l1_2.length d4, .slice B5 l1_3.length d5]] (by rfl) rfl rfl (by (try simp only [List.map_toArray, List.map_cons, List.map_nil]); first | done | rfl) ?_
          with_reducible refine (HS.out B2 d2 B3 d3 B4 d4 B5 d5 _ (Kd.R_reads' HU2.out).2.2 (Kd.R_reads' HU2.out).2.1 (Kd.R_reads' HU3.out).2.2 (Kd.R_reads' HU3.out).2.1 (Kd.R_reads' HU4.out).2.2 (Kd.R_reads' HU4.out).2.1 (Kd.R_reads' HU5.out).2.2 (Kd.R_reads' HU5.out).2.1 (HGT.out _ (below_step HB.out HB5.out))).mono ?_
          rintro e v9 ⟨vp, vq, rfl, hop, hoq, hb⟩
          refine ⟨_, rfl, ?_⟩
          have n0_ := Aside0.mk (below_step HB5.out hb)
          have n1_ := Aside0.mk (Kd.R_below HU2.out hb)
          have n2_ := Aside0.mk (Kd.R_below HU3.out hb)
          have n3_ := Aside0.mk (Kd.R_below HU4.out hb)
          have n4_ := Aside0.mk (Kd.R_below HU5.out hb)
          have n5_ := Aside0.mk (blk_below BK6.out hb)
          have m0_ := Aside0.mk (Kd.R_lower hop HB5.out.size)
          have m1_ := Aside0.mk (Kd.R_lower hoq HB5.out.size)
          clear HB5 HU2 HU3 HU4 HU5 BK6
          have HB5 := n0_
          have HU2 := n1_
          have HU3 := n2_
          have HU4 := n3_
          have HU5 := n4_
          have BK6 := n5_
          have HP := m0_
          have HQ := m1_
          clear n0_ n1_ n2_ n3_ n4_ n5_ m0_ m1_
          clear hop hoq hb
          refine hK.out _ _ (hS _ HB5.out) (fun hHeld => ?_)
          clear hK K
          refine norm_ (a' := _) ap_ ?_
          refine pZ (i := 5) (N := some 27) #[Tt, Tt, Tt, Tt, Tt, Tt, Ff, Ff, Tt, Ff, Ff] ?_
          refine pZ (i := 6) (N := some 33) #[Tt, Tt, Tt, Tt, Tt, Tt, Tt, Ff, Tt, Ff, Ff] ?_
          refine pZ (i := 7) (N := some 34) #[Tt, Tt, Tt, Tt, Tt, Tt, Tt, Tt, Tt, Ff, Ff] ?_
          exact norm_ (by simp only [putAll, Act.put, List.setIfInBounds_toArray, List.set_cons_zero, List.set_cons_succ]) (hCont (.slice B2 l0_2.length d2, .slice B3 l0_3.length d3, .slice B4 l1_2.length d4, .slice B5 l1_3.length d5, vp, vq, b6) _ ⟨HB5.out, HP.out, HQ.out, BK6.out, GB6.out⟩)
      · refine box_step ?hg (N := 6) ?hd (cs := #[.int .i64 0, .int .i64 0, .slice none 0 0, .slice none 0 0]) (t := 26) ?hr ?_; (case hd => rfl); (case hg => rfl); (case hr => first | (go_simp; done) | (go_simp; rfl))
        intro b6 hg v7 hbox hb
        have GB6 : Aside0 (W5.heap.size ≤ b6) := ⟨by rw [hg]; exact hbs⟩
        clear hg hbs
        have n0_ := Aside0.mk (below_step HB5.out hb)
        have n1_ := Aside0.mk (Kd.R_below HU2.out hb)
        have n2_ := Aside0.mk (Kd.R_below HU3.out hb)
        have m0_ := Aside0.mk (hbox)
        clear HB5 HU2 HU3
        have HB5 := n0_
        have HU2 := n1_
        have HU3 := n2_
        have BK6 := m0_
        clear n0_ n1_ n2_ m0_
        clear hb hbox
        refine hK.out _ _ (hS _ HB5.out) (fun hHeld => ?_)
        clear hK K
        refine norm_ (a' := _) ap_ ?_
        refine one_ (i := 3) (N := some 31) #[Tt, Tt, Tt, Tt, Ff, Ff, Ff, Ff, Tt, Ff, Ff] rfl rfl (one_of HT_.out (by kernel_rfl)) (by decide) (fun K hK => ?_)
        refine goes_ Tryd.func12 (by kernel_rfl) rfl #[.agg #[.int .i64 a1_0, .int .i64 a1_1, .slice A1_2 l1_2.length c1_2, .slice A1_3 l1_3.length c1_3], .bool false] (by rfl) rfl rfl (by (try simp only [List.map_toArray, List.map_cons, List.map_nil]); first | done | rfl) ?_
        with_reducible refine (laws_toFigure.calls KK a1_0 a1_1 A1_2 c1_2 l1_2 A1_3 c1_3 l1_3 false a1_0 a1_1 l1_2 l1_3 _ (Kd.C_below HR1_2.out (below_step HB.out HB5.out)) HC1_2.out (Kd.C_below HR1_3.out (below_step HB.out HB5.out)) HC1_3.out hV0.out).mono ?_
        rintro e v8 ⟨vu, vv, rfl, hou, hov, hb⟩
        refine ⟨_, rfl, ?_⟩
        have n0_ := Aside0.mk (below_step HB5.out hb)
        have n1_ := Aside0.mk (Kd.R_below HU2.out hb)
        have n2_ := Aside0.mk (Kd.R_below HU3.out hb)
        have n3_ := Aside0.mk (blk_below BK6.out hb)
        have m0_ := Aside0.mk (Kd.R_lower hou HB5.out.size)
        have m1_ := Aside0.mk (Kd.R_lower hov HB5.out.size)
        clear HB5 HU2 HU3 BK6
        have HB5 := n0_
        have HU2 := n1_
        have HU3 := n2_
        have BK6 := n3_
        have HU4 := m0_
        have HU5 := m1_
        clear n0_ n1_ n2_ n3_ m0_ m1_
        clear hou hov hb
        obtain ⟨B4, d4, rfl⟩ := Kd.R_slice HU4.out
        obtain ⟨B5, d5, rfl⟩ := Kd.R_slice HU5.out
        refine hK.out _ _ (hS _ HB5.out) (fun hHeld => ?_)
        clear hK K
        refine norm_ (a' := _) ap_ ?_
        refine one_ (i := 4) (N := some 32) #[Tt, Tt, Tt, Tt, Tt, Ff, Ff, Ff, Tt, Ff, Ff] rfl rfl (one_of HT_.out (by kernel_rfl)) (by decide) (fun K hK => ?_)
        refine goes_ Tryd.func11 (by kernel_rfl) rfl #[.agg #[.int .i64 a0_0, .int .i64 a0_1, .slice B2 l0_2.length d2, .slice B3 l0_3.length d3], .agg #[.int .i64 a1_0, .int .i64 a1_1, .slice B4 l1_2.length d4, .slice B5 l1_3.length d5]] (by rfl) rfl rfl (by (try simp only [List.map_toArray, List.map_cons, List.map_nil]); first | done | rfl) ?_
        with_reducible refine (HS.out B2 d2 B3 d3 B4 d4 B5 d5 _ (Kd.R_reads' HU2.out).2.2 (Kd.R_reads' HU2.out).2.1 (Kd.R_reads' HU3.out).2.2 (Kd.R_reads' HU3.out).2.1 (Kd.R_reads' HU4.out).2.2 (Kd.R_reads' HU4.out).2.1 (Kd.R_reads' HU5.out).2.2 (Kd.R_reads' HU5.out).2.1 (HGT.out _ (below_step HB.out HB5.out))).mono ?_
        rintro e v9 ⟨vp, vq, rfl, hop, hoq, hb⟩
        refine ⟨_, rfl, ?_⟩
        have n0_ := Aside0.mk (below_step HB5.out hb)
        have n1_ := Aside0.mk (Kd.R_below HU2.out hb)
        have n2_ := Aside0.mk (Kd.R_below HU3.out hb)
        have n3_ := Aside0.mk (blk_below BK6.out hb)
        have n4_ := Aside0.mk (Kd.R_below HU4.out hb)
        have n5_ := Aside0.mk (Kd.R_below HU5.out hb)
        have m0_ := Aside0.mk (Kd.R_lower hop HB5.out.size)
        have m1_ := Aside0.mk (Kd.R_lower hoq HB5.out.size)
        clear HB5 HU2 HU3 BK6 HU4 HU5
        have HB5 := n0_
        have HU2 := n1_
        have HU3 := n2_
        have BK6 := n3_
        have HU4 := n4_
        have HU5 := n5_
        have HP := m0_
        have HQ := m1_
        clear n0_ n1_ n2_ n3_ n4_ n5_ m0_ m1_
        clear hop hoq hb
        refine hK.out _ _ (hS _ HB5.out) (fun hHeld => ?_)
        clear hK K
        refine norm_ (a' := _) ap_ ?_
        refine pZ (i := 5) (N := some 27) #[Tt, Tt, Tt, Tt, Tt, Tt, Ff, Ff, Tt, Ff, Ff] ?_
        refine pZ (i := 6) (N := some 33) #[Tt, Tt, Tt, Tt, Tt, Tt, Tt, Ff, Tt, Ff, Ff] ?_
        refine pZ (i := 7) (N := some 34) #[Tt, Tt, Tt, Tt, Tt, Tt, Tt, Tt, Tt, Ff, Ff] ?_
        exact norm_ (by simp only [putAll, Act.put, List.setIfInBounds_toArray, List.set_cons_zero, List.set_cons_succ]) (hCont (.slice B2 l0_2.length d2, .slice B3 l0_3.length d3, .slice B4 l1_2.length d4, .slice B5 l1_3.length d5, vp, vq, b6) _ ⟨HB5.out, HP.out, HQ.out, BK6.out, GB6.out⟩)
    · refine box_step ?hg (N := 6) ?hd (cs := #[.int .i64 0, .int .i64 0, .slice none 0 0, .slice none 0 0]) (t := 26) ?hr ?_; (case hd => rfl); (case hg => rfl); (case hr => first | (go_simp; done) | (go_simp; rfl))
      intro b6 hg v6 hbox hb
      have GB6 : Aside0 (W5.heap.size ≤ b6) := ⟨by rw [hg]; exact hbs⟩
      clear hg hbs
      have n0_ := Aside0.mk (below_step HB5.out hb)
      have m0_ := Aside0.mk (hbox)
      clear HB5
      have HB5 := n0_
      have BK6 := m0_
      clear n0_ m0_
      clear hb hbox
      refine hK.out _ _ (hS _ HB5.out) (fun hHeld => ?_)
      clear hK K
      refine norm_ (a' := _) ap_ ?_
      refine one_ (i := 1) (N := some 29) #[Tt, Tt, Tt, Ff, Ff, Ff, Ff, Ff, Tt, Ff, Ff] rfl rfl (one_of HT_.out (by kernel_rfl)) (by decide) (fun K hK => ?_)
      refine goes_ Tryd.func12 (by kernel_rfl) rfl #[.agg #[.int .i64 a0_0, .int .i64 a0_1, .slice A0_2 l0_2.length c0_2, .slice A0_3 l0_3.length c0_3], .bool false] (by rfl) rfl rfl (by (try simp only [List.map_toArray, List.map_cons, List.map_nil]); first | done | rfl) ?_
      with_reducible refine (laws_toFigure.calls KK a0_0 a0_1 A0_2 c0_2 l0_2 A0_3 c0_3 l0_3 false a0_0 a0_1 l0_2 l0_3 _ (Kd.C_below HR0_2.out (below_step HB.out HB5.out)) HC0_2.out (Kd.C_below HR0_3.out (below_step HB.out HB5.out)) HC0_3.out hT0.out).mono ?_
      rintro e v7 ⟨vu, vv, rfl, hou, hov, hb⟩
      refine ⟨_, rfl, ?_⟩
      have n0_ := Aside0.mk (below_step HB5.out hb)
      have n1_ := Aside0.mk (blk_below BK6.out hb)
      have m0_ := Aside0.mk (Kd.R_lower hou HB5.out.size)
      have m1_ := Aside0.mk (Kd.R_lower hov HB5.out.size)
      clear HB5 BK6
      have HB5 := n0_
      have BK6 := n1_
      have HU2 := m0_
      have HU3 := m1_
      clear n0_ n1_ m0_ m1_
      clear hou hov hb
      obtain ⟨B2, d2, rfl⟩ := Kd.R_slice HU2.out
      obtain ⟨B3, d3, rfl⟩ := Kd.R_slice HU3.out
      refine hK.out _ _ (hS _ HB5.out) (fun hHeld => ?_)
      clear hK K
      refine norm_ (a' := _) ap_ ?_
      refine one_ (i := 3) (N := some 31) #[Tt, Tt, Tt, Tt, Ff, Ff, Ff, Ff, Tt, Ff, Ff] rfl rfl (one_of HT_.out (by kernel_rfl)) (by decide) (fun K hK => ?_)
      refine goes_ Tryd.func12 (by kernel_rfl) rfl #[.agg #[.int .i64 a1_0, .int .i64 a1_1, .slice A1_2 l1_2.length c1_2, .slice A1_3 l1_3.length c1_3], .bool false] (by rfl) rfl rfl (by (try simp only [List.map_toArray, List.map_cons, List.map_nil]); first | done | rfl) ?_
      with_reducible refine (laws_toFigure.calls KK a1_0 a1_1 A1_2 c1_2 l1_2 A1_3 c1_3 l1_3 false a1_0 a1_1 l1_2 l1_3 _ (Kd.C_below HR1_2.out (below_step HB.out HB5.out)) HC1_2.out (Kd.C_below HR1_3.out (below_step HB.out HB5.out)) HC1_3.out hV0.out).mono ?_
      rintro e v8 ⟨vu, vv, rfl, hou, hov, hb⟩
      refine ⟨_, rfl, ?_⟩
      have n0_ := Aside0.mk (below_step HB5.out hb)
      have n1_ := Aside0.mk (blk_below BK6.out hb)
      have n2_ := Aside0.mk (Kd.R_below HU2.out hb)
      have n3_ := Aside0.mk (Kd.R_below HU3.out hb)
      have m0_ := Aside0.mk (Kd.R_lower hou HB5.out.size)
      have m1_ := Aside0.mk (Kd.R_lower hov HB5.out.size)
      clear HB5 BK6 HU2 HU3
      have HB5 := n0_
      have BK6 := n1_
      have HU2 := n2_
      have HU3 := n3_
      have HU4 := m0_
      have HU5 := m1_
      clear n0_ n1_ n2_ n3_ m0_ m1_
      clear hou hov hb
      obtain ⟨B4, d4, rfl⟩ := Kd.R_slice HU4.out
      obtain ⟨B5, d5, rfl⟩ := Kd.R_slice HU5.out
      refine hK.out _ _ (hS _ HB5.out) (fun hHeld => ?_)
      clear hK K
      refine norm_ (a' := _) ap_ ?_
      refine one_ (i := 4) (N := some 32) #[Tt, Tt, Tt, Tt, Tt, Ff, Ff, Ff, Tt, Ff, Ff] rfl rfl (one_of HT_.out (by kernel_rfl)) (by decide) (fun K hK => ?_)
      refine goes_ Tryd.func11 (by kernel_rfl) rfl #[.agg #[.int .i64 a0_0, .int .i64 a0_1, .slice B2 l0_2.length d2, .slice B3 l0_3.length d3], .agg #[.int .i64 a1_0, .int .i64 a1_1, .slice B4 l1_2.length d4, .slice B5 l1_3.length d5]] (by rfl) rfl rfl (by (try simp only [List.map_toArray, List.map_cons, List.map_nil]); first | done | rfl) ?_
      with_reducible refine (HS.out B2 d2 B3 d3 B4 d4 B5 d5 _ (Kd.R_reads' HU2.out).2.2 (Kd.R_reads' HU2.out).2.1 (Kd.R_reads' HU3.out).2.2 (Kd.R_reads' HU3.out).2.1 (Kd.R_reads' HU4.out).2.2 (Kd.R_reads' HU4.out).2.1 (Kd.R_reads' HU5.out).2.2 (Kd.R_reads' HU5.out).2.1 (HGT.out _ (below_step HB.out HB5.out))).mono ?_
      rintro e v9 ⟨vp, vq, rfl, hop, hoq, hb⟩
      refine ⟨_, rfl, ?_⟩
      have n0_ := Aside0.mk (below_step HB5.out hb)
      have n1_ := Aside0.mk (blk_below BK6.out hb)
      have n2_ := Aside0.mk (Kd.R_below HU2.out hb)
      have n3_ := Aside0.mk (Kd.R_below HU3.out hb)
      have n4_ := Aside0.mk (Kd.R_below HU4.out hb)
      have n5_ := Aside0.mk (Kd.R_below HU5.out hb)
      have m0_ := Aside0.mk (Kd.R_lower hop HB5.out.size)
      have m1_ := Aside0.mk (Kd.R_lower hoq HB5.out.size)
      clear HB5 BK6 HU2 HU3 HU4 HU5
      have HB5 := n0_
      have BK6 := n1_
      have HU2 := n2_
      have HU3 := n3_
      have HU4 := n4_
      have HU5 := n5_
      have HP := m0_
      have HQ := m1_
      clear n0_ n1_ n2_ n3_ n4_ n5_ m0_ m1_
      clear hop hoq hb
      refine hK.out _ _ (hS _ HB5.out) (fun hHeld => ?_)
      clear hK K
      refine norm_ (a' := _) ap_ ?_
      refine pZ (i := 5) (N := some 27) #[Tt, Tt, Tt, Tt, Tt, Tt, Ff, Ff, Tt, Ff, Ff] ?_
      refine pZ (i := 6) (N := some 33) #[Tt, Tt, Tt, Tt, Tt, Tt, Tt, Ff, Tt, Ff, Ff] ?_
      refine pZ (i := 7) (N := some 34) #[Tt, Tt, Tt, Tt, Tt, Tt, Tt, Tt, Tt, Ff, Ff] ?_
      exact norm_ (by simp only [putAll, Act.put, List.setIfInBounds_toArray, List.set_cons_zero, List.set_cons_succ]) (hCont (.slice B2 l0_2.length d2, .slice B3 l0_3.length d3, .slice B4 l1_2.length d4, .slice B5 l1_3.length d5, vp, vq, b6) _ ⟨HB5.out, HP.out, HQ.out, BK6.out, GB6.out⟩)
  rintro ⟨z2, z3, z4, z5, vE, vF, bw⟩ w8 ⟨hb8, hP8, hQ8, h68, hG8⟩
  have hHeld := hS w8 hb8
  refine norm_ (a' := ?_) ?_ ?_
  rotate_left
  · simp only [putAll, Act.put, List.setIfInBounds_toArray, List.set_cons_zero, List.set_cons_succ]
    rfl
  obtain ⟨E2, f2, rfl⟩ := Kd.R_slice hP8
  obtain ⟨E3, f3, rfl⟩ := Kd.R_slice hQ8
  have hs0 : w8.cell? ⟨bw, 0, none⟩ = some (.int .i64 0) := (blk_cell h68 0).trans rfl
  have hs1 : w8.cell? ⟨bw, 1, none⟩ = some (.int .i64 0) := (blk_cell h68 1).trans rfl
  have hs2 : w8.cell? ⟨bw, 2, none⟩ = some (.slice none 0 0) := (blk_cell h68 2).trans rfl
  have hs3 : w8.cell? ⟨bw, 3, none⟩ = some (.slice none 0 0) := (blk_cell h68 3).trans rfl
  have hf0 := blk_frozen h68 0
  have hf1 := blk_frozen h68 1
  have hf2 := blk_frozen h68 2
  have hf3 := blk_frozen h68 3
  refine one_ (i := 9) (N := none) #[Tt, Tt, Tt, Tt, Tt, Tt, Tt, Tt, Tt, Tt, Ff] rfl rfl (one_of HT_.out (by kernel_rfl)) (by decide) (fun K hK => ?_)
  refine skip_ (w1 := ?_) (by rfl) rfl ?_ ?_
  rotate_left
  · go_simp
    rfl
  refine hK.out _ _ (hS _ (below_set (below_set (below_set (below_set hb8 hG8) hG8) hG8) hG8)) (fun hHeld => ?_)
  clear hK K
  refine pZ (i := 10) (N := some 7) #[Tt, Tt, Tt, Tt, Tt, Tt, Tt, Tt, Tt, Tt, Tt] ?_
  refine done_ (done_of HT_.out (by kernel_rfl)) ?_
  have hb9 := below_set (j := 3) (v := .slice E3 L3.length f3) (below_set (j := 2) (v := .slice E2 L2.length f2) (below_set (j := 1) (v := .int .i64 R1) (below_set (j := 0) (v := .int .i64 R0) hb8 hG8) hG8) hG8) hG8
  have K6 := blk_put (cs := #[.int .i64 R0, .int .i64 R1, .slice E2 L2.length f2, .slice none 0 0]) (blk_put (cs := #[.int .i64 R0, .int .i64 R1, .slice none 0 0, .slice none 0 0]) (blk_put (cs := #[.int .i64 R0, .int .i64 0, .slice none 0 0, .slice none 0 0]) (blk_put (cs := #[.int .i64 0, .int .i64 0, .slice none 0 0, .slice none 0 0]) h68 0 (.int .i64 R0) rfl) 1 (.int .i64 R1) rfl) 2 (.slice E2 L2.length f2) rfl) 3 (.slice E3 L3.length f3) rfl
  have HP9 := Kd.R_far (Kd.R_far (Kd.R_far (Kd.R_far (p := ⟨bw, 0, none⟩) (Kd.R_types hP8 h68 (by decide)) (fun k hk => hk.2) (.int .i64 R0)) (p := ⟨bw, 1, none⟩) (fun k hk => hk.2) (.int .i64 R1)) (p := ⟨bw, 2, none⟩) (fun k hk => hk.2) (.slice E2 L2.length f2)) (p := ⟨bw, 3, none⟩) (fun k hk => hk.2) (.slice E3 L3.length f3)
  have HQ9 := Kd.R_far (Kd.R_far (Kd.R_far (Kd.R_far (p := ⟨bw, 0, none⟩) (Kd.R_types hQ8 h68 (by decide)) (fun k hk => hk.2) (.int .i64 R0)) (p := ⟨bw, 1, none⟩) (fun k hk => hk.2) (.int .i64 R1)) (p := ⟨bw, 2, none⟩) (fun k hk => hk.2) (.slice E2 L2.length f2)) (p := ⟨bw, 3, none⟩) (fun k hk => hk.2) (.slice E3 L3.length f3)
  generalize hW9 : (((w8.setCell ⟨bw, 0, none⟩ (.int .i64 R0)).setCell ⟨bw, 1, none⟩ (.int .i64 R1)).setCell ⟨bw, 2, none⟩ (.slice E2 L2.length f2)).setCell ⟨bw, 3, none⟩ (.slice E3 L3.length f3) = w3 at hb9 K6 HP9 HQ9 ⊢
  clear hs0 hs1 hs2 hs3 hf0 hf1 hf2 hf3 hb8 hP8 hQ8 h68 hG8 hW9 hHeld HT_ HW_ hS HB5
  have HSZ := Aside0.mk (HB.out.size)
  have n0_ := Aside0.mk (below_step HB.out hb9)
  have n1_ := Aside0.mk (blk_below Q0.out hb9)
  have n2_ := Aside0.mk (blk_below P0.out hb9)
  clear HB Q0 P0
  have HB := n0_
  have Q0 := n1_
  have P0 := n2_
  clear n0_ n1_ n2_
  have W0 := Aside0.mk K6
  have V2 : Aside0 (Kd.R (Kd.int .i64) 3 w3 w.heap.size (fun k => k < w3.heap.size) (.slice E2 L2.length f2) L2) := ⟨Kd.R_lower (Kd.R_mono (Kd.R_bound HP9) (fun k hk => hk.2.2.1)) HSZ.out⟩
  have V3 : Aside0 (Kd.R (Kd.int .i64) 3 w3 w.heap.size (fun k => k < w3.heap.size) (.slice E3 L3.length f3) L3) := ⟨Kd.R_lower (Kd.R_mono (Kd.R_bound HQ9) (fun k hk => hk.2.2.1)) HSZ.out⟩
  clear K6 HP9 HQ9 hb9 HSZ
  have q0 : w3.cell? ⟨w.heap.size, 0, none⟩ = some (.int .i64 a0_0) := (blk_cell Q0.out 0).trans rfl
  have q1 : w3.cell? ⟨w.heap.size, 1, none⟩ = some (.int .i64 a0_1) := (blk_cell Q0.out 1).trans rfl
  have q2 : w3.cell? ⟨w.heap.size, 2, none⟩ = some (.slice A0_2 l0_2.length c0_2) := (blk_cell Q0.out 2).trans rfl
  have q3 : w3.cell? ⟨w.heap.size, 3, none⟩ = some (.slice A0_3 l0_3.length c0_3) := (blk_cell Q0.out 3).trans rfl
  have p0 : w3.cell? ⟨w.heap.size + 1, 0, none⟩ = some (.int .i64 a1_0) := (blk_cell P0.out 0).trans rfl
  have p1 : w3.cell? ⟨w.heap.size + 1, 1, none⟩ = some (.int .i64 a1_1) := (blk_cell P0.out 1).trans rfl
  have p2 : w3.cell? ⟨w.heap.size + 1, 2, none⟩ = some (.slice A1_2 l1_2.length c1_2) := (blk_cell P0.out 2).trans rfl
  have p3 : w3.cell? ⟨w.heap.size + 1, 3, none⟩ = some (.slice A1_3 l1_3.length c1_3) := (blk_cell P0.out 3).trans rfl
  have pp0 : w3.cell? ⟨bw, 0, none⟩ = some (.int .i64 R0) := (blk_cell W0.out 0).trans rfl
  have pp1 : w3.cell? ⟨bw, 1, none⟩ = some (.int .i64 R1) := (blk_cell W0.out 1).trans rfl
  have pp2 : w3.cell? ⟨bw, 2, none⟩ = some (.slice E2 L2.length f2) := (blk_cell W0.out 2).trans rfl
  have pp3 : w3.cell? ⟨bw, 3, none⟩ = some (.slice E3 L3.length f3) := (blk_cell W0.out 3).trans rfl
  have HW2 : Aside0 (w.heap.size + 1 < w3.heap.size ∧ bw < w3.heap.size) := ⟨⟨blk_lt P0.out, blk_lt W0.out⟩⟩
  have ltQ0 : w.heap.size < w3.heap.size := blk_lt Q0.out
  have ltP0 : w.heap.size + 1 < w3.heap.size := blk_lt P0.out
  have ltW0 : bw < w3.heap.size := blk_lt W0.out
  go_wp2_with (first
    | (go_at_call 12; have _t := tok2; (with_reducible refine (laws_toFigure_full a0_0 a0_1 A0_2 c0_2 l0_2 A0_3 c0_3 l0_3 _ (Kd.C_below HR0_2.out HB.out) HC0_2.out (Kd.C_below HR0_3.out HB.out) HC0_3.out HL2.out HL3.out).mono ?_); rintro e w4 ⟨g2, cc2, g3, cc3, rfl, ho2, ho3, hne, hb⟩; have HG : Aside0 ((w3.heap.size ≤ g2 ∧ g2 < w4.heap.size) ∧ (w3.heap.size ≤ g3 ∧ g3 < w4.heap.size) ∧ g2 ≠ g3) := ⟨⟨by have h_ := Kd.R_base ho2 g2 (by simp [Value.ownBlock]); simpa using h_, Kd.R_lt ho2 g2 (by simp [Value.ownBlock])⟩, ⟨by have h_ := Kd.R_base ho3 g3 (by simp [Value.ownBlock]); simpa using h_, Kd.R_lt ho3 g3 (by simp [Value.ownBlock])⟩, hne⟩;
       have HS3 : Aside0 (w.heap.size ≤ w3.heap.size) := ⟨by have := HB.out.size; omega⟩;
       have HWX0 : Aside0 (w3.heap.size ≤ w4.heap.size) := ⟨by have := hb.size; simpa using this⟩;
       clear ltQ0 ltP0 ltW0;
       have n0_ := Aside0.mk (below_step HB.out hb);
       have n1_ := Aside0.mk (blk_keep Q0.out hb);
       have n2_ := Aside0.mk (blk_keep P0.out hb);
       have n3_ := Aside0.mk (blk_keep W0.out hb);
       have n4_ := Aside0.mk (Kd.R_below V2.out hb);
       have n5_ := Aside0.mk (Kd.R_below V3.out hb);
       clear q0 q1 q2 q3 p0 p1 p2 p3 pp0 pp1 pp2 pp3 HB Q0 P0 W0 V2 V3;
       have HB := n0_;
       have Q0 := n1_;
       have P0 := n2_;
       have W0 := n3_;
       have V2 := n4_;
       have V3 := n5_;
       clear n0_ n1_ n2_ n3_ n4_ n5_;
       have q0 : w4.cell? ⟨w.heap.size, 0, none⟩ = some (.int .i64 a0_0) := (blk_cell Q0.out 0).trans rfl;
       have q1 : w4.cell? ⟨w.heap.size, 1, none⟩ = some (.int .i64 a0_1) := (blk_cell Q0.out 1).trans rfl;
       have q2 : w4.cell? ⟨w.heap.size, 2, none⟩ = some (.slice A0_2 l0_2.length c0_2) := (blk_cell Q0.out 2).trans rfl;
       have q3 : w4.cell? ⟨w.heap.size, 3, none⟩ = some (.slice A0_3 l0_3.length c0_3) := (blk_cell Q0.out 3).trans rfl;
       have p0 : w4.cell? ⟨w.heap.size + 1, 0, none⟩ = some (.int .i64 a1_0) := (blk_cell P0.out 0).trans rfl;
       have p1 : w4.cell? ⟨w.heap.size + 1, 1, none⟩ = some (.int .i64 a1_1) := (blk_cell P0.out 1).trans rfl;
       have p2 : w4.cell? ⟨w.heap.size + 1, 2, none⟩ = some (.slice A1_2 l1_2.length c1_2) := (blk_cell P0.out 2).trans rfl;
       have p3 : w4.cell? ⟨w.heap.size + 1, 3, none⟩ = some (.slice A1_3 l1_3.length c1_3) := (blk_cell P0.out 3).trans rfl;
       have pp0 : w4.cell? ⟨bw, 0, none⟩ = some (.int .i64 R0) := (blk_cell W0.out 0).trans rfl;
       have pp1 : w4.cell? ⟨bw, 1, none⟩ = some (.int .i64 R1) := (blk_cell W0.out 1).trans rfl;
       have pp2 : w4.cell? ⟨bw, 2, none⟩ = some (.slice E2 L2.length f2) := (blk_cell W0.out 2).trans rfl;
       have pp3 : w4.cell? ⟨bw, 3, none⟩ = some (.slice E3 L3.length f3) := (blk_cell W0.out 3).trans rfl;
       have G2 : Aside0 (Kd.R (Kd.int .i64) 3 w4 w.heap.size (fun k => k = g2) (.slice (some ⟨g2, 0, none⟩) (fullOf l0_2).length cc2) (fullOf l0_2)) := ⟨Kd.R_lower (Kd.R_mono (Kd.R_tight rfl ho2) (fun k hk => by simpa [Value.ownBlock] using hk)) (by simpa using HS3.out)⟩;
       have G3 : Aside0 (Kd.R (Kd.int .i64) 3 w4 w.heap.size (fun k => k = g3) (.slice (some ⟨g3, 0, none⟩) (fullOf l0_3).length cc3) (fullOf l0_3)) := ⟨Kd.R_lower (Kd.R_mono (Kd.R_tight rfl ho3) (fun k hk => by simpa [Value.ownBlock] using hk)) (by simpa using HS3.out)⟩;
       have T2 : Aside0 (l0_2.length ≤ cc2 ∧ Kd.C (Kd.int .i64) w4 (some ⟨g2, 0, none⟩) l0_2.length l0_2) := ⟨by have h := (Kd.R_reads' (Kd.R_take G2.out (m := l0_2.length) (by rw [fullOf_length]; omega))).2; rw [fullOf_take] at h; exact h⟩;
       have T3 : Aside0 (l0_3.length ≤ cc3 ∧ Kd.C (Kd.int .i64) w4 (some ⟨g3, 0, none⟩) l0_3.length l0_3) := ⟨by have h := (Kd.R_reads' (Kd.R_take G3.out (m := l0_3.length) (by rw [fullOf_length]; omega))).2; rw [fullOf_take] at h; exact h⟩;
       have ltQ0 : w.heap.size < w4.heap.size := blk_lt Q0.out;
       have ltP0 : w.heap.size + 1 < w4.heap.size := blk_lt P0.out;
       have ltW0 : bw < w4.heap.size := blk_lt W0.out;
       clear hb ho2 ho3 hne HS3; clear _t tok2; have tok3 : True := trivial)
    | (go_at_call 12; have _t := tok3; (with_reducible refine (laws_toFigure_full a1_0 a1_1 A1_2 c1_2 l1_2 A1_3 c1_3 l1_3 _ (Kd.C_below HR1_2.out (below_alloc HB.out _)) HC1_2.out (Kd.C_below HR1_3.out (below_alloc HB.out _)) HC1_3.out HL4.out HL5.out).mono ?_); rintro e w5 ⟨g4, cc4, g5, cc5, rfl, ho2, ho3, hne, hb⟩; have HGB : Aside0 ((w4.heap.size + 1 ≤ g4 ∧ g4 < w5.heap.size) ∧ (w4.heap.size + 1 ≤ g5 ∧ g5 < w5.heap.size) ∧ g4 ≠ g5) := ⟨⟨by have h_ := Kd.R_base ho2 g4 (by simp [Value.ownBlock]); simpa using h_, Kd.R_lt ho2 g4 (by simp [Value.ownBlock])⟩, ⟨by have h_ := Kd.R_base ho3 g5 (by simp [Value.ownBlock]); simpa using h_, Kd.R_lt ho3 g5 (by simp [Value.ownBlock])⟩, hne⟩;
       have HS3 : Aside0 (w.heap.size ≤ w4.heap.size + 1) := ⟨by have := HB.out.size; omega⟩;
       have HWX1 : Aside0 (w4.heap.size + 1 ≤ w5.heap.size) := ⟨by have := hb.size; simpa using this⟩;
       clear ltQ0 ltP0 ltW0;
       have n0_ := Aside0.mk (below_step (below_alloc HB.out _) hb);
       have n1_ := Aside0.mk (blk_keep (blk_alloc Q0.out _) hb);
       have n2_ := Aside0.mk (blk_keep (blk_alloc P0.out _) hb);
       have n3_ := Aside0.mk (blk_keep (blk_alloc W0.out _) hb);
       have n4_ := Aside0.mk (Kd.R_below (Kd.R_alloc V2.out _) hb);
       have n5_ := Aside0.mk (Kd.R_below (Kd.R_alloc V3.out _) hb);
       have n6_ := Aside0.mk (Kd.R_below (Kd.R_alloc G2.out _) hb);
       have n7_ := Aside0.mk (Kd.R_below (Kd.R_alloc G3.out _) hb);
       clear q0 q1 q2 q3 p0 p1 p2 p3 pp0 pp1 pp2 pp3 HB Q0 P0 W0 V2 V3 G2 G3;
       have HB := n0_;
       have Q0 := n1_;
       have P0 := n2_;
       have W0 := n3_;
       have V2 := n4_;
       have V3 := n5_;
       have G2 := n6_;
       have G3 := n7_;
       clear n0_ n1_ n2_ n3_ n4_ n5_ n6_ n7_;
       have X0 : Aside0 (w5.heap[w4.heap.size]? = some (.cells #[.int .i64 a0_0, .int .i64 a0_1, .slice (some ⟨g2, 0, none⟩) l0_2.length cc2, .slice (some ⟨g3, 0, none⟩) l0_3.length cc3] 26 (0, 0))) := ⟨blk_keep (heap_alloc_new w4 _) hb⟩;
       have q0 : w5.cell? ⟨w.heap.size, 0, none⟩ = some (.int .i64 a0_0) := (blk_cell Q0.out 0).trans rfl;
       have q1 : w5.cell? ⟨w.heap.size, 1, none⟩ = some (.int .i64 a0_1) := (blk_cell Q0.out 1).trans rfl;
       have q2 : w5.cell? ⟨w.heap.size, 2, none⟩ = some (.slice A0_2 l0_2.length c0_2) := (blk_cell Q0.out 2).trans rfl;
       have q3 : w5.cell? ⟨w.heap.size, 3, none⟩ = some (.slice A0_3 l0_3.length c0_3) := (blk_cell Q0.out 3).trans rfl;
       have p0 : w5.cell? ⟨w.heap.size + 1, 0, none⟩ = some (.int .i64 a1_0) := (blk_cell P0.out 0).trans rfl;
       have p1 : w5.cell? ⟨w.heap.size + 1, 1, none⟩ = some (.int .i64 a1_1) := (blk_cell P0.out 1).trans rfl;
       have p2 : w5.cell? ⟨w.heap.size + 1, 2, none⟩ = some (.slice A1_2 l1_2.length c1_2) := (blk_cell P0.out 2).trans rfl;
       have p3 : w5.cell? ⟨w.heap.size + 1, 3, none⟩ = some (.slice A1_3 l1_3.length c1_3) := (blk_cell P0.out 3).trans rfl;
       have pp0 : w5.cell? ⟨bw, 0, none⟩ = some (.int .i64 R0) := (blk_cell W0.out 0).trans rfl;
       have pp1 : w5.cell? ⟨bw, 1, none⟩ = some (.int .i64 R1) := (blk_cell W0.out 1).trans rfl;
       have pp2 : w5.cell? ⟨bw, 2, none⟩ = some (.slice E2 L2.length f2) := (blk_cell W0.out 2).trans rfl;
       have pp3 : w5.cell? ⟨bw, 3, none⟩ = some (.slice E3 L3.length f3) := (blk_cell W0.out 3).trans rfl;
       have x0 : w5.cell? ⟨w4.heap.size, 0, none⟩ = some (.int .i64 a0_0) := (blk_cell X0.out 0).trans rfl;
       have x1 : w5.cell? ⟨w4.heap.size, 1, none⟩ = some (.int .i64 a0_1) := (blk_cell X0.out 1).trans rfl;
       have x2 : w5.cell? ⟨w4.heap.size, 2, none⟩ = some (.slice (some ⟨g2, 0, none⟩) l0_2.length cc2) := (blk_cell X0.out 2).trans rfl;
       have x3 : w5.cell? ⟨w4.heap.size, 3, none⟩ = some (.slice (some ⟨g3, 0, none⟩) l0_3.length cc3) := (blk_cell X0.out 3).trans rfl;
       have G4 : Aside0 (Kd.R (Kd.int .i64) 3 w5 w.heap.size (fun k => k = g4) (.slice (some ⟨g4, 0, none⟩) (fullOf l1_2).length cc4) (fullOf l1_2)) := ⟨Kd.R_lower (Kd.R_mono (Kd.R_tight rfl ho2) (fun k hk => by simpa [Value.ownBlock] using hk)) (by simpa using HS3.out)⟩;
       have G5 : Aside0 (Kd.R (Kd.int .i64) 3 w5 w.heap.size (fun k => k = g5) (.slice (some ⟨g5, 0, none⟩) (fullOf l1_3).length cc5) (fullOf l1_3)) := ⟨Kd.R_lower (Kd.R_mono (Kd.R_tight rfl ho3) (fun k hk => by simpa [Value.ownBlock] using hk)) (by simpa using HS3.out)⟩;
       have T4 : Aside0 (l1_2.length ≤ cc4 ∧ Kd.C (Kd.int .i64) w5 (some ⟨g4, 0, none⟩) l1_2.length l1_2) := ⟨by have h := (Kd.R_reads' (Kd.R_take G4.out (m := l1_2.length) (by rw [fullOf_length]; omega))).2; rw [fullOf_take] at h; exact h⟩;
       have T5 : Aside0 (l1_3.length ≤ cc5 ∧ Kd.C (Kd.int .i64) w5 (some ⟨g5, 0, none⟩) l1_3.length l1_3) := ⟨by have h := (Kd.R_reads' (Kd.R_take G5.out (m := l1_3.length) (by rw [fullOf_length]; omega))).2; rw [fullOf_take] at h; exact h⟩;
       have n0_ := Aside0.mk (⟨T2.out.1, Kd.C_below (Kd.C_alloc T2.out.2 _) hb⟩ : l0_2.length ≤ cc2 ∧ Kd.C (Kd.int .i64) w5 (some ⟨g2, 0, none⟩) l0_2.length l0_2);
       have n1_ := Aside0.mk (⟨T3.out.1, Kd.C_below (Kd.C_alloc T3.out.2 _) hb⟩ : l0_3.length ≤ cc3 ∧ Kd.C (Kd.int .i64) w5 (some ⟨g3, 0, none⟩) l0_3.length l0_3);
       clear T2 T3;
       have T2 := n0_;
       have T3 := n1_;
       clear n0_ n1_;
       have ltQ0 : w.heap.size < w5.heap.size := blk_lt Q0.out;
       have ltP0 : w.heap.size + 1 < w5.heap.size := blk_lt P0.out;
       have ltW0 : bw < w5.heap.size := blk_lt W0.out;
       have ltX0 : w4.heap.size < w5.heap.size := blk_lt X0.out;
       clear hb ho2 ho3 hne HS3; clear _t tok3; have tok4 : True := trivial)
    | (go_at_call 13; have _t := tok4; (with_reducible refine (HI.out _ _ _ _ _ _ _ _ _ (Kd.C_alloc T2.out.2 _) T2.out.1 (Kd.C_alloc T3.out.2 _) T3.out.1 (Kd.C_alloc T4.out.2 _) T4.out.1 (Kd.C_alloc T5.out.2 _) T5.out.1 (HGT.out _ (below_alloc HB.out _))).mono ?_); rintro e w6 ⟨v7, v8, rfl, ho7, ho8, hb⟩; have HS4 : Aside0 (w.heap.size ≤ w5.heap.size + 1) := ⟨by have := HB.out.size; omega⟩;
       have HWY : Aside0 (w5.heap.size < w6.heap.size) := ⟨by have := hb.size; simp at this; omega⟩;
       clear ltQ0 ltP0 ltW0 ltX0;
       have n0_ := Aside0.mk (below_step (below_alloc HB.out _) hb);
       have n1_ := Aside0.mk (blk_keep (blk_alloc Q0.out _) hb);
       have n2_ := Aside0.mk (blk_keep (blk_alloc P0.out _) hb);
       have n3_ := Aside0.mk (blk_keep (blk_alloc W0.out _) hb);
       have n4_ := Aside0.mk (Kd.R_below (Kd.R_alloc V2.out _) hb);
       have n5_ := Aside0.mk (Kd.R_below (Kd.R_alloc V3.out _) hb);
       have n6_ := Aside0.mk (Kd.R_below (Kd.R_alloc G2.out _) hb);
       have n7_ := Aside0.mk (Kd.R_below (Kd.R_alloc G3.out _) hb);
       have n8_ := Aside0.mk (blk_keep (blk_alloc X0.out _) hb);
       have n9_ := Aside0.mk (Kd.R_below (Kd.R_alloc G4.out _) hb);
       have n10_ := Aside0.mk (Kd.R_below (Kd.R_alloc G5.out _) hb);
       clear q0 q1 q2 q3 p0 p1 p2 p3 pp0 pp1 pp2 pp3 x0 x1 x2 x3 HB Q0 P0 W0 V2 V3 G2 G3 X0 G4 G5;
       have HB := n0_;
       have Q0 := n1_;
       have P0 := n2_;
       have W0 := n3_;
       have V2 := n4_;
       have V3 := n5_;
       have G2 := n6_;
       have G3 := n7_;
       have X0 := n8_;
       have G4 := n9_;
       have G5 := n10_;
       clear n0_ n1_ n2_ n3_ n4_ n5_ n6_ n7_ n8_ n9_ n10_;
       have X1 : Aside0 (w6.heap[w5.heap.size]? = some (.cells #[.int .i64 a1_0, .int .i64 a1_1, .slice (some ⟨g4, 0, none⟩) l1_2.length cc4, .slice (some ⟨g5, 0, none⟩) l1_3.length cc5] 26 (0, 0))) := ⟨blk_keep (heap_alloc_new w5 _) hb⟩;
       have q0 : w6.cell? ⟨w.heap.size, 0, none⟩ = some (.int .i64 a0_0) := (blk_cell Q0.out 0).trans rfl;
       have q1 : w6.cell? ⟨w.heap.size, 1, none⟩ = some (.int .i64 a0_1) := (blk_cell Q0.out 1).trans rfl;
       have q2 : w6.cell? ⟨w.heap.size, 2, none⟩ = some (.slice A0_2 l0_2.length c0_2) := (blk_cell Q0.out 2).trans rfl;
       have q3 : w6.cell? ⟨w.heap.size, 3, none⟩ = some (.slice A0_3 l0_3.length c0_3) := (blk_cell Q0.out 3).trans rfl;
       have p0 : w6.cell? ⟨w.heap.size + 1, 0, none⟩ = some (.int .i64 a1_0) := (blk_cell P0.out 0).trans rfl;
       have p1 : w6.cell? ⟨w.heap.size + 1, 1, none⟩ = some (.int .i64 a1_1) := (blk_cell P0.out 1).trans rfl;
       have p2 : w6.cell? ⟨w.heap.size + 1, 2, none⟩ = some (.slice A1_2 l1_2.length c1_2) := (blk_cell P0.out 2).trans rfl;
       have p3 : w6.cell? ⟨w.heap.size + 1, 3, none⟩ = some (.slice A1_3 l1_3.length c1_3) := (blk_cell P0.out 3).trans rfl;
       have pp0 : w6.cell? ⟨bw, 0, none⟩ = some (.int .i64 R0) := (blk_cell W0.out 0).trans rfl;
       have pp1 : w6.cell? ⟨bw, 1, none⟩ = some (.int .i64 R1) := (blk_cell W0.out 1).trans rfl;
       have pp2 : w6.cell? ⟨bw, 2, none⟩ = some (.slice E2 L2.length f2) := (blk_cell W0.out 2).trans rfl;
       have pp3 : w6.cell? ⟨bw, 3, none⟩ = some (.slice E3 L3.length f3) := (blk_cell W0.out 3).trans rfl;
       have x0 : w6.cell? ⟨w4.heap.size, 0, none⟩ = some (.int .i64 a0_0) := (blk_cell X0.out 0).trans rfl;
       have x1 : w6.cell? ⟨w4.heap.size, 1, none⟩ = some (.int .i64 a0_1) := (blk_cell X0.out 1).trans rfl;
       have x2 : w6.cell? ⟨w4.heap.size, 2, none⟩ = some (.slice (some ⟨g2, 0, none⟩) l0_2.length cc2) := (blk_cell X0.out 2).trans rfl;
       have x3 : w6.cell? ⟨w4.heap.size, 3, none⟩ = some (.slice (some ⟨g3, 0, none⟩) l0_3.length cc3) := (blk_cell X0.out 3).trans rfl;
       have y0 : w6.cell? ⟨w5.heap.size, 0, none⟩ = some (.int .i64 a1_0) := (blk_cell X1.out 0).trans rfl;
       have y1 : w6.cell? ⟨w5.heap.size, 1, none⟩ = some (.int .i64 a1_1) := (blk_cell X1.out 1).trans rfl;
       have y2 : w6.cell? ⟨w5.heap.size, 2, none⟩ = some (.slice (some ⟨g4, 0, none⟩) l1_2.length cc4) := (blk_cell X1.out 2).trans rfl;
       have y3 : w6.cell? ⟨w5.heap.size, 3, none⟩ = some (.slice (some ⟨g5, 0, none⟩) l1_3.length cc5) := (blk_cell X1.out 3).trans rfl;
       have V7 : Aside0 (Kd.R (Kd.int .i64) 3 w6 w.heap.size (fun k => w5.heap.size < k ∧ k < w6.heap.size) v7 L2) := ⟨Kd.R_lower (Kd.R_mono (Kd.R_bound ho7) (fun k hk => ⟨by have := hk.2.1; simp at this; omega, hk.2.2.1⟩)) (by simpa using HS4.out)⟩;
       have V8 : Aside0 (Kd.R (Kd.int .i64) 3 w6 w.heap.size (fun k => w5.heap.size < k ∧ k < w6.heap.size) v8 L3) := ⟨Kd.R_lower (Kd.R_mono (Kd.R_bound ho8) (fun k hk => ⟨by have := hk.2.1; simp at this; omega, hk.2.2.1⟩)) (by simpa using HS4.out)⟩;
       have NE : Aside0 (∀ k, some k = (v7 : Value).ownBlock → ¬ some k = (v8 : Value).ownBlock) := ⟨fun k h1 h2 => ho7.1 k h1.symm h2⟩;
       obtain ⟨A7, e7, rfl⟩ := Kd.R_slice ho7;
       obtain ⟨A8, e8, rfl⟩ := Kd.R_slice ho8;
       have ltQ0 : w.heap.size < w6.heap.size := blk_lt Q0.out;
       have ltP0 : w.heap.size + 1 < w6.heap.size := blk_lt P0.out;
       have ltW0 : bw < w6.heap.size := blk_lt W0.out;
       have ltX0 : w4.heap.size < w6.heap.size := blk_lt X0.out;
       have ltX1 : w5.heap.size < w6.heap.size := blk_lt X1.out;
       clear hb ho7 ho8 HS4 T2 T3 T4 T5; clear _t tok4; have tok5 : True := trivial)
    | (go_at_call 14; have _t := tok5; (with_reducible refine (laws_eqFigure.calls KK R0 R1 _ _ L2 _ _ L3 R0 R1 _ _ L2 _ _ L3 true _ (Kd.R_reads' (Kd.R_alloc V7.out _)).2.2 (Kd.R_reads' V7.out).2.1 (Kd.R_reads' (Kd.R_alloc V8.out _)).2.2 (Kd.R_reads' V8.out).2.1 (Kd.R_reads' (Kd.R_alloc V2.out _)).2.2 (Kd.R_reads' V2.out).2.1 (Kd.R_reads' (Kd.R_alloc V3.out _)).2.2 (Kd.R_reads' V3.out).2.1 hE.out).mono ?_); rintro e w7 ⟨rfl, hb⟩; clear ltQ0 ltP0 ltW0 ltX0 ltX1;
       have n0_ := Aside0.mk (below_step (below_alloc HB.out _) hb);
       have n1_ := Aside0.mk (blk_keep (blk_alloc Q0.out _) hb);
       have n2_ := Aside0.mk (blk_keep (blk_alloc P0.out _) hb);
       have n3_ := Aside0.mk (blk_keep (blk_alloc W0.out _) hb);
       have n4_ := Aside0.mk (Kd.R_below (Kd.R_alloc V2.out _) hb);
       have n5_ := Aside0.mk (Kd.R_below (Kd.R_alloc V3.out _) hb);
       have n6_ := Aside0.mk (Kd.R_below (Kd.R_alloc G2.out _) hb);
       have n7_ := Aside0.mk (Kd.R_below (Kd.R_alloc G3.out _) hb);
       have n8_ := Aside0.mk (blk_keep (blk_alloc X0.out _) hb);
       have n9_ := Aside0.mk (Kd.R_below (Kd.R_alloc G4.out _) hb);
       have n10_ := Aside0.mk (Kd.R_below (Kd.R_alloc G5.out _) hb);
       have n11_ := Aside0.mk (blk_keep (blk_alloc X1.out _) hb);
       have n12_ := Aside0.mk (Kd.R_below (Kd.R_alloc V7.out _) hb);
       have n13_ := Aside0.mk (Kd.R_below (Kd.R_alloc V8.out _) hb);
       clear q0 q1 q2 q3 p0 p1 p2 p3 pp0 pp1 pp2 pp3 x0 x1 x2 x3 y0 y1 y2 y3 HB Q0 P0 W0 V2 V3 G2 G3 X0 G4 G5 X1 V7 V8;
       have HB := n0_;
       have Q0 := n1_;
       have P0 := n2_;
       have W0 := n3_;
       have V2 := n4_;
       have V3 := n5_;
       have G2 := n6_;
       have G3 := n7_;
       have X0 := n8_;
       have G4 := n9_;
       have G5 := n10_;
       have X1 := n11_;
       have V7 := n12_;
       have V8 := n13_;
       clear n0_ n1_ n2_ n3_ n4_ n5_ n6_ n7_ n8_ n9_ n10_ n11_ n12_ n13_;
       have G0 : Aside0 (w7.heap[w6.heap.size]? = some (.cells #[.int .i64 R0, .int .i64 R1, .slice A7 L2.length e7, .slice A8 L3.length e8] 26 (0, 0))) := ⟨blk_keep (heap_alloc_new w6 _) hb⟩;
       have q0 : w7.cell? ⟨w.heap.size, 0, none⟩ = some (.int .i64 a0_0) := (blk_cell Q0.out 0).trans rfl;
       have q1 : w7.cell? ⟨w.heap.size, 1, none⟩ = some (.int .i64 a0_1) := (blk_cell Q0.out 1).trans rfl;
       have q2 : w7.cell? ⟨w.heap.size, 2, none⟩ = some (.slice A0_2 l0_2.length c0_2) := (blk_cell Q0.out 2).trans rfl;
       have q3 : w7.cell? ⟨w.heap.size, 3, none⟩ = some (.slice A0_3 l0_3.length c0_3) := (blk_cell Q0.out 3).trans rfl;
       have p0 : w7.cell? ⟨w.heap.size + 1, 0, none⟩ = some (.int .i64 a1_0) := (blk_cell P0.out 0).trans rfl;
       have p1 : w7.cell? ⟨w.heap.size + 1, 1, none⟩ = some (.int .i64 a1_1) := (blk_cell P0.out 1).trans rfl;
       have p2 : w7.cell? ⟨w.heap.size + 1, 2, none⟩ = some (.slice A1_2 l1_2.length c1_2) := (blk_cell P0.out 2).trans rfl;
       have p3 : w7.cell? ⟨w.heap.size + 1, 3, none⟩ = some (.slice A1_3 l1_3.length c1_3) := (blk_cell P0.out 3).trans rfl;
       have pp0 : w7.cell? ⟨bw, 0, none⟩ = some (.int .i64 R0) := (blk_cell W0.out 0).trans rfl;
       have pp1 : w7.cell? ⟨bw, 1, none⟩ = some (.int .i64 R1) := (blk_cell W0.out 1).trans rfl;
       have pp2 : w7.cell? ⟨bw, 2, none⟩ = some (.slice E2 L2.length f2) := (blk_cell W0.out 2).trans rfl;
       have pp3 : w7.cell? ⟨bw, 3, none⟩ = some (.slice E3 L3.length f3) := (blk_cell W0.out 3).trans rfl;
       have x0 : w7.cell? ⟨w4.heap.size, 0, none⟩ = some (.int .i64 a0_0) := (blk_cell X0.out 0).trans rfl;
       have x1 : w7.cell? ⟨w4.heap.size, 1, none⟩ = some (.int .i64 a0_1) := (blk_cell X0.out 1).trans rfl;
       have x2 : w7.cell? ⟨w4.heap.size, 2, none⟩ = some (.slice (some ⟨g2, 0, none⟩) l0_2.length cc2) := (blk_cell X0.out 2).trans rfl;
       have x3 : w7.cell? ⟨w4.heap.size, 3, none⟩ = some (.slice (some ⟨g3, 0, none⟩) l0_3.length cc3) := (blk_cell X0.out 3).trans rfl;
       have y0 : w7.cell? ⟨w5.heap.size, 0, none⟩ = some (.int .i64 a1_0) := (blk_cell X1.out 0).trans rfl;
       have y1 : w7.cell? ⟨w5.heap.size, 1, none⟩ = some (.int .i64 a1_1) := (blk_cell X1.out 1).trans rfl;
       have y2 : w7.cell? ⟨w5.heap.size, 2, none⟩ = some (.slice (some ⟨g4, 0, none⟩) l1_2.length cc4) := (blk_cell X1.out 2).trans rfl;
       have y3 : w7.cell? ⟨w5.heap.size, 3, none⟩ = some (.slice (some ⟨g5, 0, none⟩) l1_3.length cc5) := (blk_cell X1.out 3).trans rfl;
       have gg0 : w7.cell? ⟨w6.heap.size, 0, none⟩ = some (.int .i64 R0) := (blk_cell G0.out 0).trans rfl;
       have gg1 : w7.cell? ⟨w6.heap.size, 1, none⟩ = some (.int .i64 R1) := (blk_cell G0.out 1).trans rfl;
       have gg2 : w7.cell? ⟨w6.heap.size, 2, none⟩ = some (.slice A7 L2.length e7) := (blk_cell G0.out 2).trans rfl;
       have gg3 : w7.cell? ⟨w6.heap.size, 3, none⟩ = some (.slice A8 L3.length e8) := (blk_cell G0.out 3).trans rfl;
       clear hb; clear _t tok5; have tok6 : True := trivial))
  go_region_held3 (fun w' => w'.cell? ⟨w.heap.size, 0, none⟩ = some (.int .i64 a0_0) ∧ w'.cell? ⟨w.heap.size, 1, none⟩ = some (.int .i64 a0_1) ∧ w'.cell? ⟨w.heap.size, 2, none⟩ = some (.slice A0_2 l0_2.length c0_2) ∧ w'.cell? ⟨w.heap.size, 3, none⟩ = some (.slice A0_3 l0_3.length c0_3) ∧ w'.cell? ⟨w4.heap.size, 0, none⟩ = some (.int .i64 a0_0) ∧ w'.cell? ⟨w4.heap.size, 1, none⟩ = some (.int .i64 a0_1) ∧ w'.cell? ⟨w4.heap.size, 2, none⟩ = some (.slice (some ⟨g2, 0, none⟩) l0_2.length cc2) ∧ w'.cell? ⟨w4.heap.size, 3, none⟩ = some (.slice (some ⟨g3, 0, none⟩) l0_3.length cc3))
    (first | (exact ⟨q0, q1, q2, q3, x0, x1, x2, x3⟩) | (go_split_ands; exact ⟨pw_cell_below hbB (by assumption), pw_cell_below hbB (by assumption), pw_cell_below hbB (by assumption), pw_cell_below hbB (by assumption), pw_cell_below hbB (by assumption), pw_cell_below hbB (by assumption), pw_cell_below hbB (by assumption), pw_cell_below hbB (by assumption)⟩) | (go_split_ands; exact ⟨pw_cell_below hbA (by assumption), pw_cell_below hbA (by assumption), pw_cell_below hbA (by assumption), pw_cell_below hbA (by assumption), pw_cell_below hbA (by assumption), pw_cell_below hbA (by assumption), pw_cell_below hbA (by assumption), pw_cell_below hbA (by assumption)⟩))
    ((first
      | (go_at_call 12; refine (laws_toFigure_full a0_0 a0_1 A0_2 c0_2 l0_2 A0_3 c0_3 l0_3 _ (Kd.C_below HR0_2.out (below_drew HB.out)) HC0_2.out (Kd.C_below HR0_3.out (below_drew HB.out)) HC0_3.out HL2.out HL3.out).mono ?_; rintro e wA ⟨ra2, rc2, ra3, rc3, rfl, hyA, hyB, hyne, hbA⟩)
      | (go_at_call 15; refine (laws_intactFigure_full a0_0 a0_1 g2 cc2 g3 cc3 ra2 rc2 ra3 rc3 l0_2 l0_3 _ (Kd.R_reads' (Kd.R_below (Kd.R_drew G2.out) hbA)).2.2 (Kd.R_reads' G2.out).2.1 (Kd.R_reads' (Kd.R_below (Kd.R_drew G3.out) hbA)).2.2 (Kd.R_reads' G3.out).2.1 (Kd.R_reads' hyA).2.2 (Kd.R_reads' hyA).2.1 (Kd.R_reads' hyB).2.2 (Kd.R_reads' hyB).2.1 HL2.out HL3.out).mono ?_; rintro e wB ⟨rfl, hbB⟩)))
  have n0_ := Aside0.mk (below_step (below_step (below_drew HB.out) hbA) hbB)
  have n1_ := Aside0.mk (blk_keep (blk_keep (blk_drew Q0.out) hbA) hbB)
  have n2_ := Aside0.mk (blk_keep (blk_keep (blk_drew P0.out) hbA) hbB)
  have n3_ := Aside0.mk (blk_keep (blk_keep (blk_drew W0.out) hbA) hbB)
  have n4_ := Aside0.mk (Kd.R_below (Kd.R_below (Kd.R_drew V2.out) hbA) hbB)
  have n5_ := Aside0.mk (Kd.R_below (Kd.R_below (Kd.R_drew V3.out) hbA) hbB)
  have n6_ := Aside0.mk (Kd.R_below (Kd.R_below (Kd.R_drew G2.out) hbA) hbB)
  have n7_ := Aside0.mk (Kd.R_below (Kd.R_below (Kd.R_drew G3.out) hbA) hbB)
  have n8_ := Aside0.mk (blk_keep (blk_keep (blk_drew X0.out) hbA) hbB)
  have n9_ := Aside0.mk (Kd.R_below (Kd.R_below (Kd.R_drew G4.out) hbA) hbB)
  have n10_ := Aside0.mk (Kd.R_below (Kd.R_below (Kd.R_drew G5.out) hbA) hbB)
  have n11_ := Aside0.mk (blk_keep (blk_keep (blk_drew X1.out) hbA) hbB)
  have n12_ := Aside0.mk (Kd.R_below (Kd.R_below (Kd.R_drew V7.out) hbA) hbB)
  have n13_ := Aside0.mk (Kd.R_below (Kd.R_below (Kd.R_drew V8.out) hbA) hbB)
  have n14_ := Aside0.mk (blk_keep (blk_keep (blk_drew G0.out) hbA) hbB)
  go_split_ands
  clear q0 q1 q2 q3 p0 p1 p2 p3 pp0 pp1 pp2 pp3 x0 x1 x2 x3 y0 y1 y2 y3 gg0 gg1 gg2 gg3 HB Q0 P0 W0 V2 V3 G2 G3 X0 G4 G5 X1 V7 V8 G0 hyA hyB hyne hbA hbB
  have HB := n0_
  have Q0 := n1_
  have P0 := n2_
  have W0 := n3_
  have V2 := n4_
  have V3 := n5_
  have G2 := n6_
  have G3 := n7_
  have X0 := n8_
  have G4 := n9_
  have G5 := n10_
  have X1 := n11_
  have V7 := n12_
  have V8 := n13_
  have G0 := n14_
  clear n0_ n1_ n2_ n3_ n4_ n5_ n6_ n7_ n8_ n9_ n10_ n11_ n12_ n13_ n14_
  have q0 : wB.cell? ⟨w.heap.size, 0, none⟩ = some (.int .i64 a0_0) := (blk_cell Q0.out 0).trans rfl
  have q1 : wB.cell? ⟨w.heap.size, 1, none⟩ = some (.int .i64 a0_1) := (blk_cell Q0.out 1).trans rfl
  have q2 : wB.cell? ⟨w.heap.size, 2, none⟩ = some (.slice A0_2 l0_2.length c0_2) := (blk_cell Q0.out 2).trans rfl
  have q3 : wB.cell? ⟨w.heap.size, 3, none⟩ = some (.slice A0_3 l0_3.length c0_3) := (blk_cell Q0.out 3).trans rfl
  have p0 : wB.cell? ⟨w.heap.size + 1, 0, none⟩ = some (.int .i64 a1_0) := (blk_cell P0.out 0).trans rfl
  have p1 : wB.cell? ⟨w.heap.size + 1, 1, none⟩ = some (.int .i64 a1_1) := (blk_cell P0.out 1).trans rfl
  have p2 : wB.cell? ⟨w.heap.size + 1, 2, none⟩ = some (.slice A1_2 l1_2.length c1_2) := (blk_cell P0.out 2).trans rfl
  have p3 : wB.cell? ⟨w.heap.size + 1, 3, none⟩ = some (.slice A1_3 l1_3.length c1_3) := (blk_cell P0.out 3).trans rfl
  have pp0 : wB.cell? ⟨bw, 0, none⟩ = some (.int .i64 R0) := (blk_cell W0.out 0).trans rfl
  have pp1 : wB.cell? ⟨bw, 1, none⟩ = some (.int .i64 R1) := (blk_cell W0.out 1).trans rfl
  have pp2 : wB.cell? ⟨bw, 2, none⟩ = some (.slice E2 L2.length f2) := (blk_cell W0.out 2).trans rfl
  have pp3 : wB.cell? ⟨bw, 3, none⟩ = some (.slice E3 L3.length f3) := (blk_cell W0.out 3).trans rfl
  have x0 : wB.cell? ⟨w4.heap.size, 0, none⟩ = some (.int .i64 a0_0) := (blk_cell X0.out 0).trans rfl
  have x1 : wB.cell? ⟨w4.heap.size, 1, none⟩ = some (.int .i64 a0_1) := (blk_cell X0.out 1).trans rfl
  have x2 : wB.cell? ⟨w4.heap.size, 2, none⟩ = some (.slice (some ⟨g2, 0, none⟩) l0_2.length cc2) := (blk_cell X0.out 2).trans rfl
  have x3 : wB.cell? ⟨w4.heap.size, 3, none⟩ = some (.slice (some ⟨g3, 0, none⟩) l0_3.length cc3) := (blk_cell X0.out 3).trans rfl
  have y0 : wB.cell? ⟨w5.heap.size, 0, none⟩ = some (.int .i64 a1_0) := (blk_cell X1.out 0).trans rfl
  have y1 : wB.cell? ⟨w5.heap.size, 1, none⟩ = some (.int .i64 a1_1) := (blk_cell X1.out 1).trans rfl
  have y2 : wB.cell? ⟨w5.heap.size, 2, none⟩ = some (.slice (some ⟨g4, 0, none⟩) l1_2.length cc4) := (blk_cell X1.out 2).trans rfl
  have y3 : wB.cell? ⟨w5.heap.size, 3, none⟩ = some (.slice (some ⟨g5, 0, none⟩) l1_3.length cc5) := (blk_cell X1.out 3).trans rfl
  have gg0 : wB.cell? ⟨w6.heap.size, 0, none⟩ = some (.int .i64 R0) := (blk_cell G0.out 0).trans rfl
  have gg1 : wB.cell? ⟨w6.heap.size, 1, none⟩ = some (.int .i64 R1) := (blk_cell G0.out 1).trans rfl
  have gg2 : wB.cell? ⟨w6.heap.size, 2, none⟩ = some (.slice A7 L2.length e7) := (blk_cell G0.out 2).trans rfl
  have gg3 : wB.cell? ⟨w6.heap.size, 3, none⟩ = some (.slice A8 L3.length e8) := (blk_cell G0.out 3).trans rfl
  go_wp2_with fail
  go_region_held3 (fun w' => w'.cell? ⟨w.heap.size + 1, 0, none⟩ = some (.int .i64 a1_0) ∧ w'.cell? ⟨w.heap.size + 1, 1, none⟩ = some (.int .i64 a1_1) ∧ w'.cell? ⟨w.heap.size + 1, 2, none⟩ = some (.slice A1_2 l1_2.length c1_2) ∧ w'.cell? ⟨w.heap.size + 1, 3, none⟩ = some (.slice A1_3 l1_3.length c1_3) ∧ w'.cell? ⟨w5.heap.size, 0, none⟩ = some (.int .i64 a1_0) ∧ w'.cell? ⟨w5.heap.size, 1, none⟩ = some (.int .i64 a1_1) ∧ w'.cell? ⟨w5.heap.size, 2, none⟩ = some (.slice (some ⟨g4, 0, none⟩) l1_2.length cc4) ∧ w'.cell? ⟨w5.heap.size, 3, none⟩ = some (.slice (some ⟨g5, 0, none⟩) l1_3.length cc5))
    (first | (exact ⟨p0, p1, p2, p3, y0, y1, y2, y3⟩) | (go_split_ands; exact ⟨pw_cell_below hbB (by assumption), pw_cell_below hbB (by assumption), pw_cell_below hbB (by assumption), pw_cell_below hbB (by assumption), pw_cell_below hbB (by assumption), pw_cell_below hbB (by assumption), pw_cell_below hbB (by assumption), pw_cell_below hbB (by assumption)⟩) | (go_split_ands; exact ⟨pw_cell_below hbA (by assumption), pw_cell_below hbA (by assumption), pw_cell_below hbA (by assumption), pw_cell_below hbA (by assumption), pw_cell_below hbA (by assumption), pw_cell_below hbA (by assumption), pw_cell_below hbA (by assumption), pw_cell_below hbA (by assumption)⟩))
    ((first
      | (go_at_call 12; refine (laws_toFigure_full a1_0 a1_1 A1_2 c1_2 l1_2 A1_3 c1_3 l1_3 _ (Kd.C_below HR1_2.out (below_drew HB.out)) HC1_2.out (Kd.C_below HR1_3.out (below_drew HB.out)) HC1_3.out HL4.out HL5.out).mono ?_; rintro e wC ⟨rb2, rd2, rb3, rd3, rfl, hyA, hyB, hyne, hbA⟩)
      | (go_at_call 15; refine (laws_intactFigure_full a1_0 a1_1 g4 cc4 g5 cc5 rb2 rd2 rb3 rd3 l1_2 l1_3 _ (Kd.R_reads' (Kd.R_below (Kd.R_drew G4.out) hbA)).2.2 (Kd.R_reads' G4.out).2.1 (Kd.R_reads' (Kd.R_below (Kd.R_drew G5.out) hbA)).2.2 (Kd.R_reads' G5.out).2.1 (Kd.R_reads' hyA).2.2 (Kd.R_reads' hyA).2.1 (Kd.R_reads' hyB).2.2 (Kd.R_reads' hyB).2.1 HL4.out HL5.out).mono ?_; rintro e wD ⟨rfl, hbB⟩)))
  have n0_ := Aside0.mk (below_step (below_step (below_drew HB.out) hbA) hbB)
  have n1_ := Aside0.mk (blk_keep (blk_keep (blk_drew Q0.out) hbA) hbB)
  have n2_ := Aside0.mk (blk_keep (blk_keep (blk_drew P0.out) hbA) hbB)
  have n3_ := Aside0.mk (blk_keep (blk_keep (blk_drew W0.out) hbA) hbB)
  have n4_ := Aside0.mk (Kd.R_below (Kd.R_below (Kd.R_drew V2.out) hbA) hbB)
  have n5_ := Aside0.mk (Kd.R_below (Kd.R_below (Kd.R_drew V3.out) hbA) hbB)
  have n6_ := Aside0.mk (Kd.R_below (Kd.R_below (Kd.R_drew G2.out) hbA) hbB)
  have n7_ := Aside0.mk (Kd.R_below (Kd.R_below (Kd.R_drew G3.out) hbA) hbB)
  have n8_ := Aside0.mk (blk_keep (blk_keep (blk_drew X0.out) hbA) hbB)
  have n9_ := Aside0.mk (Kd.R_below (Kd.R_below (Kd.R_drew G4.out) hbA) hbB)
  have n10_ := Aside0.mk (Kd.R_below (Kd.R_below (Kd.R_drew G5.out) hbA) hbB)
  have n11_ := Aside0.mk (blk_keep (blk_keep (blk_drew X1.out) hbA) hbB)
  have n12_ := Aside0.mk (Kd.R_below (Kd.R_below (Kd.R_drew V7.out) hbA) hbB)
  have n13_ := Aside0.mk (Kd.R_below (Kd.R_below (Kd.R_drew V8.out) hbA) hbB)
  have n14_ := Aside0.mk (blk_keep (blk_keep (blk_drew G0.out) hbA) hbB)
  go_split_ands
  clear q0 q1 q2 q3 p0 p1 p2 p3 pp0 pp1 pp2 pp3 x0 x1 x2 x3 y0 y1 y2 y3 gg0 gg1 gg2 gg3 HB Q0 P0 W0 V2 V3 G2 G3 X0 G4 G5 X1 V7 V8 G0 hyA hyB hyne hbA hbB
  have HB := n0_
  have Q0 := n1_
  have P0 := n2_
  have W0 := n3_
  have V2 := n4_
  have V3 := n5_
  have G2 := n6_
  have G3 := n7_
  have X0 := n8_
  have G4 := n9_
  have G5 := n10_
  have X1 := n11_
  have V7 := n12_
  have V8 := n13_
  have G0 := n14_
  clear n0_ n1_ n2_ n3_ n4_ n5_ n6_ n7_ n8_ n9_ n10_ n11_ n12_ n13_ n14_
  have q0 : wD.cell? ⟨w.heap.size, 0, none⟩ = some (.int .i64 a0_0) := (blk_cell Q0.out 0).trans rfl
  have q1 : wD.cell? ⟨w.heap.size, 1, none⟩ = some (.int .i64 a0_1) := (blk_cell Q0.out 1).trans rfl
  have q2 : wD.cell? ⟨w.heap.size, 2, none⟩ = some (.slice A0_2 l0_2.length c0_2) := (blk_cell Q0.out 2).trans rfl
  have q3 : wD.cell? ⟨w.heap.size, 3, none⟩ = some (.slice A0_3 l0_3.length c0_3) := (blk_cell Q0.out 3).trans rfl
  have p0 : wD.cell? ⟨w.heap.size + 1, 0, none⟩ = some (.int .i64 a1_0) := (blk_cell P0.out 0).trans rfl
  have p1 : wD.cell? ⟨w.heap.size + 1, 1, none⟩ = some (.int .i64 a1_1) := (blk_cell P0.out 1).trans rfl
  have p2 : wD.cell? ⟨w.heap.size + 1, 2, none⟩ = some (.slice A1_2 l1_2.length c1_2) := (blk_cell P0.out 2).trans rfl
  have p3 : wD.cell? ⟨w.heap.size + 1, 3, none⟩ = some (.slice A1_3 l1_3.length c1_3) := (blk_cell P0.out 3).trans rfl
  have pp0 : wD.cell? ⟨bw, 0, none⟩ = some (.int .i64 R0) := (blk_cell W0.out 0).trans rfl
  have pp1 : wD.cell? ⟨bw, 1, none⟩ = some (.int .i64 R1) := (blk_cell W0.out 1).trans rfl
  have pp2 : wD.cell? ⟨bw, 2, none⟩ = some (.slice E2 L2.length f2) := (blk_cell W0.out 2).trans rfl
  have pp3 : wD.cell? ⟨bw, 3, none⟩ = some (.slice E3 L3.length f3) := (blk_cell W0.out 3).trans rfl
  have x0 : wD.cell? ⟨w4.heap.size, 0, none⟩ = some (.int .i64 a0_0) := (blk_cell X0.out 0).trans rfl
  have x1 : wD.cell? ⟨w4.heap.size, 1, none⟩ = some (.int .i64 a0_1) := (blk_cell X0.out 1).trans rfl
  have x2 : wD.cell? ⟨w4.heap.size, 2, none⟩ = some (.slice (some ⟨g2, 0, none⟩) l0_2.length cc2) := (blk_cell X0.out 2).trans rfl
  have x3 : wD.cell? ⟨w4.heap.size, 3, none⟩ = some (.slice (some ⟨g3, 0, none⟩) l0_3.length cc3) := (blk_cell X0.out 3).trans rfl
  have y0 : wD.cell? ⟨w5.heap.size, 0, none⟩ = some (.int .i64 a1_0) := (blk_cell X1.out 0).trans rfl
  have y1 : wD.cell? ⟨w5.heap.size, 1, none⟩ = some (.int .i64 a1_1) := (blk_cell X1.out 1).trans rfl
  have y2 : wD.cell? ⟨w5.heap.size, 2, none⟩ = some (.slice (some ⟨g4, 0, none⟩) l1_2.length cc4) := (blk_cell X1.out 2).trans rfl
  have y3 : wD.cell? ⟨w5.heap.size, 3, none⟩ = some (.slice (some ⟨g5, 0, none⟩) l1_3.length cc5) := (blk_cell X1.out 3).trans rfl
  have gg0 : wD.cell? ⟨w6.heap.size, 0, none⟩ = some (.int .i64 R0) := (blk_cell G0.out 0).trans rfl
  have gg1 : wD.cell? ⟨w6.heap.size, 1, none⟩ = some (.int .i64 R1) := (blk_cell G0.out 1).trans rfl
  have gg2 : wD.cell? ⟨w6.heap.size, 2, none⟩ = some (.slice A7 L2.length e7) := (blk_cell G0.out 2).trans rfl
  have gg3 : wD.cell? ⟨w6.heap.size, 3, none⟩ = some (.slice A8 L3.length e8) := (blk_cell G0.out 3).trans rfl
  have P23 : Aside0 (∀ k : Nat, k = g2 → ¬ k = g3) := ⟨fun k h1 h2 => HG.out.2.2 (h1.symm.trans h2)⟩
  have P32 : Aside0 (∀ k : Nat, k = g3 → ¬ k = g2) := ⟨fun k h1 h2 => HG.out.2.2 (h2.symm.trans h1)⟩
  have T2 : Aside0 (Kd.R (Kd.int .i64) 3 wD w.heap.size (fun k => k = g2) (.slice (some ⟨g2, 0, none⟩) l0_2.length cc2) l0_2) := ⟨by have h := Kd.R_take G2.out (m := l0_2.length) (by rw [fullOf_length]; omega); rw [fullOf_take] at h; exact h⟩
  have T3 : Aside0 (Kd.R (Kd.int .i64) 3 wD w.heap.size (fun k => k = g3) (.slice (some ⟨g3, 0, none⟩) l0_3.length cc3) l0_3) := ⟨by have h := Kd.R_take G3.out (m := l0_3.length) (by rw [fullOf_length]; omega); rw [fullOf_take] at h; exact h⟩
  have P45 : Aside0 (∀ k : Nat, k = g4 → ¬ k = g5) := ⟨fun k h1 h2 => HGB.out.2.2 (h1.symm.trans h2)⟩
  have P54 : Aside0 (∀ k : Nat, k = g5 → ¬ k = g4) := ⟨fun k h1 h2 => HGB.out.2.2 (h2.symm.trans h1)⟩
  have T4 : Aside0 (Kd.R (Kd.int .i64) 3 wD w.heap.size (fun k => k = g4) (.slice (some ⟨g4, 0, none⟩) l1_2.length cc4) l1_2) := ⟨by have h := Kd.R_take G4.out (m := l1_2.length) (by rw [fullOf_length]; omega); rw [fullOf_take] at h; exact h⟩
  have T5 : Aside0 (Kd.R (Kd.int .i64) 3 wD w.heap.size (fun k => k = g5) (.slice (some ⟨g5, 0, none⟩) l1_3.length cc5) l1_3) := ⟨by have h := Kd.R_take G5.out (m := l1_3.length) (by rw [fullOf_length]; omega); rw [fullOf_take] at h; exact h⟩
  have NE2 : Aside0 (∀ k : Nat, some k = (Value.slice A8 L3.length e8).ownBlock → ¬ some k = (Value.slice A7 L2.length e7).ownBlock) := ⟨fun k h1 h2 => NE.out k h2 h1⟩
  clear G2 G3 G4 G5
  go_wp2_with (first
    | (go_at_call 16; have _t := tok6; (with_reducible refine (laws_markFigure.calls KK a0_0 a0_1 (fun k => k = g2) _ l0_2 (fun k => k = g3) _ l0_3 101 mk (marks l0_2.length 101) (marks l0_3.length (101 + (l0_2.length : Int))) w _ HB.out T2.out P23.out T3.out P32.out hM.out).mono ?_); rintro e w8 ⟨rfl, hm2, hm3, hbw, hk⟩; have n0_ := Aside0.mk (hbw);
       have n1_ := Aside0.mk (blk_kept2 Q0.out hk (fun h => by have := HG.out; have := HGB.out; have := HW2.out; have := HWX0.out; have := HWX1.out; have := HWY.out; omega));
       have n2_ := Aside0.mk (blk_kept2 P0.out hk (fun h => by have := HG.out; have := HGB.out; have := HW2.out; have := HWX0.out; have := HWX1.out; have := HWY.out; omega));
       have n3_ := Aside0.mk (blk_kept2 W0.out hk (fun h => by have := HG.out; have := HGB.out; have := HW2.out; have := HWX0.out; have := HWX1.out; have := HWY.out; omega));
       have n4_ := Aside0.mk (Kd.R_kept V2.out hk (fun k hk_ h => by have := HG.out; have := HGB.out; have := HW2.out; have := HWX0.out; have := HWX1.out; have := HWY.out; omega));
       have n5_ := Aside0.mk (Kd.R_kept V3.out hk (fun k hk_ h => by have := HG.out; have := HGB.out; have := HW2.out; have := HWX0.out; have := HWX1.out; have := HWY.out; omega));
       have n6_ := Aside0.mk (blk_kept2 X0.out hk (fun h => by have := HG.out; have := HGB.out; have := HW2.out; have := HWX0.out; have := HWX1.out; have := HWY.out; omega));
       have n7_ := Aside0.mk (blk_kept2 X1.out hk (fun h => by have := HG.out; have := HGB.out; have := HW2.out; have := HWX0.out; have := HWX1.out; have := HWY.out; omega));
       have n8_ := Aside0.mk (Kd.R_kept V7.out hk (fun k hk_ h => by have := HG.out; have := HGB.out; have := HW2.out; have := HWX0.out; have := HWX1.out; have := HWY.out; omega));
       have n9_ := Aside0.mk (Kd.R_kept V8.out hk (fun k hk_ h => by have := HG.out; have := HGB.out; have := HW2.out; have := HWX0.out; have := HWX1.out; have := HWY.out; omega));
       have n10_ := Aside0.mk (blk_kept2 G0.out hk (fun h => by have := HG.out; have := HGB.out; have := HW2.out; have := HWX0.out; have := HWX1.out; have := HWY.out; omega));
       have n11_ := Aside0.mk (Kd.R_kept T4.out hk (fun k hk_ h => by have := HG.out; have := HGB.out; have := HW2.out; have := HWX0.out; have := HWX1.out; have := HWY.out; omega));
       have n12_ := Aside0.mk (Kd.R_kept T5.out hk (fun k hk_ h => by have := HG.out; have := HGB.out; have := HW2.out; have := HWX0.out; have := HWX1.out; have := HWY.out; omega));
       clear q0 q1 q2 q3 p0 p1 p2 p3 pp0 pp1 pp2 pp3 x0 x1 x2 x3 y0 y1 y2 y3 gg0 gg1 gg2 gg3 HB Q0 P0 W0 V2 V3 X0 X1 V7 V8 G0 T4 T5;
       have HB := n0_;
       have Q0 := n1_;
       have P0 := n2_;
       have W0 := n3_;
       have V2 := n4_;
       have V3 := n5_;
       have X0 := n6_;
       have X1 := n7_;
       have V7 := n8_;
       have V8 := n9_;
       have G0 := n10_;
       have T4 := n11_;
       have T5 := n12_;
       clear n0_ n1_ n2_ n3_ n4_ n5_ n6_ n7_ n8_ n9_ n10_ n11_ n12_;
       have q0 : w8.cell? ⟨w.heap.size, 0, none⟩ = some (.int .i64 a0_0) := (blk_cell Q0.out 0).trans rfl;
       have q1 : w8.cell? ⟨w.heap.size, 1, none⟩ = some (.int .i64 a0_1) := (blk_cell Q0.out 1).trans rfl;
       have q2 : w8.cell? ⟨w.heap.size, 2, none⟩ = some (.slice A0_2 l0_2.length c0_2) := (blk_cell Q0.out 2).trans rfl;
       have q3 : w8.cell? ⟨w.heap.size, 3, none⟩ = some (.slice A0_3 l0_3.length c0_3) := (blk_cell Q0.out 3).trans rfl;
       have p0 : w8.cell? ⟨w.heap.size + 1, 0, none⟩ = some (.int .i64 a1_0) := (blk_cell P0.out 0).trans rfl;
       have p1 : w8.cell? ⟨w.heap.size + 1, 1, none⟩ = some (.int .i64 a1_1) := (blk_cell P0.out 1).trans rfl;
       have p2 : w8.cell? ⟨w.heap.size + 1, 2, none⟩ = some (.slice A1_2 l1_2.length c1_2) := (blk_cell P0.out 2).trans rfl;
       have p3 : w8.cell? ⟨w.heap.size + 1, 3, none⟩ = some (.slice A1_3 l1_3.length c1_3) := (blk_cell P0.out 3).trans rfl;
       have pp0 : w8.cell? ⟨bw, 0, none⟩ = some (.int .i64 R0) := (blk_cell W0.out 0).trans rfl;
       have pp1 : w8.cell? ⟨bw, 1, none⟩ = some (.int .i64 R1) := (blk_cell W0.out 1).trans rfl;
       have pp2 : w8.cell? ⟨bw, 2, none⟩ = some (.slice E2 L2.length f2) := (blk_cell W0.out 2).trans rfl;
       have pp3 : w8.cell? ⟨bw, 3, none⟩ = some (.slice E3 L3.length f3) := (blk_cell W0.out 3).trans rfl;
       have x0 : w8.cell? ⟨w4.heap.size, 0, none⟩ = some (.int .i64 a0_0) := (blk_cell X0.out 0).trans rfl;
       have x1 : w8.cell? ⟨w4.heap.size, 1, none⟩ = some (.int .i64 a0_1) := (blk_cell X0.out 1).trans rfl;
       have x2 : w8.cell? ⟨w4.heap.size, 2, none⟩ = some (.slice (some ⟨g2, 0, none⟩) l0_2.length cc2) := (blk_cell X0.out 2).trans rfl;
       have x3 : w8.cell? ⟨w4.heap.size, 3, none⟩ = some (.slice (some ⟨g3, 0, none⟩) l0_3.length cc3) := (blk_cell X0.out 3).trans rfl;
       have y0 : w8.cell? ⟨w5.heap.size, 0, none⟩ = some (.int .i64 a1_0) := (blk_cell X1.out 0).trans rfl;
       have y1 : w8.cell? ⟨w5.heap.size, 1, none⟩ = some (.int .i64 a1_1) := (blk_cell X1.out 1).trans rfl;
       have y2 : w8.cell? ⟨w5.heap.size, 2, none⟩ = some (.slice (some ⟨g4, 0, none⟩) l1_2.length cc4) := (blk_cell X1.out 2).trans rfl;
       have y3 : w8.cell? ⟨w5.heap.size, 3, none⟩ = some (.slice (some ⟨g5, 0, none⟩) l1_3.length cc5) := (blk_cell X1.out 3).trans rfl;
       have gg0 : w8.cell? ⟨w6.heap.size, 0, none⟩ = some (.int .i64 R0) := (blk_cell G0.out 0).trans rfl;
       have gg1 : w8.cell? ⟨w6.heap.size, 1, none⟩ = some (.int .i64 R1) := (blk_cell G0.out 1).trans rfl;
       have gg2 : w8.cell? ⟨w6.heap.size, 2, none⟩ = some (.slice A7 L2.length e7) := (blk_cell G0.out 2).trans rfl;
       have gg3 : w8.cell? ⟨w6.heap.size, 3, none⟩ = some (.slice A8 L3.length e8) := (blk_cell G0.out 3).trans rfl;
       clear hm2 hm3 hbw hk T2 T3; clear _t tok6; have tok7 : True := trivial)
    | (go_at_call 16; have _t := tok7; (with_reducible refine (laws_markFigure.calls KK a1_0 a1_1 (fun k => k = g4) _ l1_2 (fun k => k = g5) _ l1_3 mk mk2 (marks l1_2.length mk) (marks l1_3.length (mk + (l1_2.length : Int))) w _ HB.out T4.out P45.out T5.out P54.out hM2.out).mono ?_); rintro e w9 ⟨rfl, hm2, hm3, hbw, hk⟩; have n0_ := Aside0.mk (hbw);
       have n1_ := Aside0.mk (blk_kept2 Q0.out hk (fun h => by have := HG.out; have := HGB.out; have := HW2.out; have := HWX0.out; have := HWX1.out; have := HWY.out; omega));
       have n2_ := Aside0.mk (blk_kept2 P0.out hk (fun h => by have := HG.out; have := HGB.out; have := HW2.out; have := HWX0.out; have := HWX1.out; have := HWY.out; omega));
       have n3_ := Aside0.mk (blk_kept2 W0.out hk (fun h => by have := HG.out; have := HGB.out; have := HW2.out; have := HWX0.out; have := HWX1.out; have := HWY.out; omega));
       have n4_ := Aside0.mk (Kd.R_kept V2.out hk (fun k hk_ h => by have := HG.out; have := HGB.out; have := HW2.out; have := HWX0.out; have := HWX1.out; have := HWY.out; omega));
       have n5_ := Aside0.mk (Kd.R_kept V3.out hk (fun k hk_ h => by have := HG.out; have := HGB.out; have := HW2.out; have := HWX0.out; have := HWX1.out; have := HWY.out; omega));
       have n6_ := Aside0.mk (blk_kept2 X0.out hk (fun h => by have := HG.out; have := HGB.out; have := HW2.out; have := HWX0.out; have := HWX1.out; have := HWY.out; omega));
       have n7_ := Aside0.mk (blk_kept2 X1.out hk (fun h => by have := HG.out; have := HGB.out; have := HW2.out; have := HWX0.out; have := HWX1.out; have := HWY.out; omega));
       have n8_ := Aside0.mk (Kd.R_kept V7.out hk (fun k hk_ h => by have := HG.out; have := HGB.out; have := HW2.out; have := HWX0.out; have := HWX1.out; have := HWY.out; omega));
       have n9_ := Aside0.mk (Kd.R_kept V8.out hk (fun k hk_ h => by have := HG.out; have := HGB.out; have := HW2.out; have := HWX0.out; have := HWX1.out; have := HWY.out; omega));
       have n10_ := Aside0.mk (blk_kept2 G0.out hk (fun h => by have := HG.out; have := HGB.out; have := HW2.out; have := HWX0.out; have := HWX1.out; have := HWY.out; omega));
       clear q0 q1 q2 q3 p0 p1 p2 p3 pp0 pp1 pp2 pp3 x0 x1 x2 x3 y0 y1 y2 y3 gg0 gg1 gg2 gg3 HB Q0 P0 W0 V2 V3 X0 X1 V7 V8 G0;
       have HB := n0_;
       have Q0 := n1_;
       have P0 := n2_;
       have W0 := n3_;
       have V2 := n4_;
       have V3 := n5_;
       have X0 := n6_;
       have X1 := n7_;
       have V7 := n8_;
       have V8 := n9_;
       have G0 := n10_;
       clear n0_ n1_ n2_ n3_ n4_ n5_ n6_ n7_ n8_ n9_ n10_;
       have q0 : w9.cell? ⟨w.heap.size, 0, none⟩ = some (.int .i64 a0_0) := (blk_cell Q0.out 0).trans rfl;
       have q1 : w9.cell? ⟨w.heap.size, 1, none⟩ = some (.int .i64 a0_1) := (blk_cell Q0.out 1).trans rfl;
       have q2 : w9.cell? ⟨w.heap.size, 2, none⟩ = some (.slice A0_2 l0_2.length c0_2) := (blk_cell Q0.out 2).trans rfl;
       have q3 : w9.cell? ⟨w.heap.size, 3, none⟩ = some (.slice A0_3 l0_3.length c0_3) := (blk_cell Q0.out 3).trans rfl;
       have p0 : w9.cell? ⟨w.heap.size + 1, 0, none⟩ = some (.int .i64 a1_0) := (blk_cell P0.out 0).trans rfl;
       have p1 : w9.cell? ⟨w.heap.size + 1, 1, none⟩ = some (.int .i64 a1_1) := (blk_cell P0.out 1).trans rfl;
       have p2 : w9.cell? ⟨w.heap.size + 1, 2, none⟩ = some (.slice A1_2 l1_2.length c1_2) := (blk_cell P0.out 2).trans rfl;
       have p3 : w9.cell? ⟨w.heap.size + 1, 3, none⟩ = some (.slice A1_3 l1_3.length c1_3) := (blk_cell P0.out 3).trans rfl;
       have pp0 : w9.cell? ⟨bw, 0, none⟩ = some (.int .i64 R0) := (blk_cell W0.out 0).trans rfl;
       have pp1 : w9.cell? ⟨bw, 1, none⟩ = some (.int .i64 R1) := (blk_cell W0.out 1).trans rfl;
       have pp2 : w9.cell? ⟨bw, 2, none⟩ = some (.slice E2 L2.length f2) := (blk_cell W0.out 2).trans rfl;
       have pp3 : w9.cell? ⟨bw, 3, none⟩ = some (.slice E3 L3.length f3) := (blk_cell W0.out 3).trans rfl;
       have x0 : w9.cell? ⟨w4.heap.size, 0, none⟩ = some (.int .i64 a0_0) := (blk_cell X0.out 0).trans rfl;
       have x1 : w9.cell? ⟨w4.heap.size, 1, none⟩ = some (.int .i64 a0_1) := (blk_cell X0.out 1).trans rfl;
       have x2 : w9.cell? ⟨w4.heap.size, 2, none⟩ = some (.slice (some ⟨g2, 0, none⟩) l0_2.length cc2) := (blk_cell X0.out 2).trans rfl;
       have x3 : w9.cell? ⟨w4.heap.size, 3, none⟩ = some (.slice (some ⟨g3, 0, none⟩) l0_3.length cc3) := (blk_cell X0.out 3).trans rfl;
       have y0 : w9.cell? ⟨w5.heap.size, 0, none⟩ = some (.int .i64 a1_0) := (blk_cell X1.out 0).trans rfl;
       have y1 : w9.cell? ⟨w5.heap.size, 1, none⟩ = some (.int .i64 a1_1) := (blk_cell X1.out 1).trans rfl;
       have y2 : w9.cell? ⟨w5.heap.size, 2, none⟩ = some (.slice (some ⟨g4, 0, none⟩) l1_2.length cc4) := (blk_cell X1.out 2).trans rfl;
       have y3 : w9.cell? ⟨w5.heap.size, 3, none⟩ = some (.slice (some ⟨g5, 0, none⟩) l1_3.length cc5) := (blk_cell X1.out 3).trans rfl;
       have gg0 : w9.cell? ⟨w6.heap.size, 0, none⟩ = some (.int .i64 R0) := (blk_cell G0.out 0).trans rfl;
       have gg1 : w9.cell? ⟨w6.heap.size, 1, none⟩ = some (.int .i64 R1) := (blk_cell G0.out 1).trans rfl;
       have gg2 : w9.cell? ⟨w6.heap.size, 2, none⟩ = some (.slice A7 L2.length e7) := (blk_cell G0.out 2).trans rfl;
       have gg3 : w9.cell? ⟨w6.heap.size, 3, none⟩ = some (.slice A8 L3.length e8) := (blk_cell G0.out 3).trans rfl;
       clear hm2 hm3 hbw hk T4 T5; clear _t tok7; have tok8 : True := trivial)
    | (go_at_call 14; have _t := tok8; (with_reducible refine (laws_eqFigure.calls KK R0 R1 _ _ L2 _ _ L3 R0 R1 _ _ L2 _ _ L3 true _ (Kd.R_reads' V7.out).2.2 (Kd.R_reads' V7.out).2.1 (Kd.R_reads' V8.out).2.2 (Kd.R_reads' V8.out).2.1 (Kd.R_reads' V2.out).2.2 (Kd.R_reads' V2.out).2.1 (Kd.R_reads' V3.out).2.2 (Kd.R_reads' V3.out).2.1 hE.out).mono ?_); rintro e w10 ⟨rfl, hb⟩; have n0_ := Aside0.mk (below_step HB.out hb);
       have n1_ := Aside0.mk (blk_keep Q0.out hb);
       have n2_ := Aside0.mk (blk_keep P0.out hb);
       have n3_ := Aside0.mk (blk_keep W0.out hb);
       have n4_ := Aside0.mk (Kd.R_below V2.out hb);
       have n5_ := Aside0.mk (Kd.R_below V3.out hb);
       have n6_ := Aside0.mk (blk_keep X0.out hb);
       have n7_ := Aside0.mk (blk_keep X1.out hb);
       have n8_ := Aside0.mk (Kd.R_below V7.out hb);
       have n9_ := Aside0.mk (Kd.R_below V8.out hb);
       have n10_ := Aside0.mk (blk_keep G0.out hb);
       clear q0 q1 q2 q3 p0 p1 p2 p3 pp0 pp1 pp2 pp3 x0 x1 x2 x3 y0 y1 y2 y3 gg0 gg1 gg2 gg3 HB Q0 P0 W0 V2 V3 X0 X1 V7 V8 G0;
       have HB := n0_;
       have Q0 := n1_;
       have P0 := n2_;
       have W0 := n3_;
       have V2 := n4_;
       have V3 := n5_;
       have X0 := n6_;
       have X1 := n7_;
       have V7 := n8_;
       have V8 := n9_;
       have G0 := n10_;
       clear n0_ n1_ n2_ n3_ n4_ n5_ n6_ n7_ n8_ n9_ n10_;
       have q0 : w10.cell? ⟨w.heap.size, 0, none⟩ = some (.int .i64 a0_0) := (blk_cell Q0.out 0).trans rfl;
       have q1 : w10.cell? ⟨w.heap.size, 1, none⟩ = some (.int .i64 a0_1) := (blk_cell Q0.out 1).trans rfl;
       have q2 : w10.cell? ⟨w.heap.size, 2, none⟩ = some (.slice A0_2 l0_2.length c0_2) := (blk_cell Q0.out 2).trans rfl;
       have q3 : w10.cell? ⟨w.heap.size, 3, none⟩ = some (.slice A0_3 l0_3.length c0_3) := (blk_cell Q0.out 3).trans rfl;
       have p0 : w10.cell? ⟨w.heap.size + 1, 0, none⟩ = some (.int .i64 a1_0) := (blk_cell P0.out 0).trans rfl;
       have p1 : w10.cell? ⟨w.heap.size + 1, 1, none⟩ = some (.int .i64 a1_1) := (blk_cell P0.out 1).trans rfl;
       have p2 : w10.cell? ⟨w.heap.size + 1, 2, none⟩ = some (.slice A1_2 l1_2.length c1_2) := (blk_cell P0.out 2).trans rfl;
       have p3 : w10.cell? ⟨w.heap.size + 1, 3, none⟩ = some (.slice A1_3 l1_3.length c1_3) := (blk_cell P0.out 3).trans rfl;
       have pp0 : w10.cell? ⟨bw, 0, none⟩ = some (.int .i64 R0) := (blk_cell W0.out 0).trans rfl;
       have pp1 : w10.cell? ⟨bw, 1, none⟩ = some (.int .i64 R1) := (blk_cell W0.out 1).trans rfl;
       have pp2 : w10.cell? ⟨bw, 2, none⟩ = some (.slice E2 L2.length f2) := (blk_cell W0.out 2).trans rfl;
       have pp3 : w10.cell? ⟨bw, 3, none⟩ = some (.slice E3 L3.length f3) := (blk_cell W0.out 3).trans rfl;
       have x0 : w10.cell? ⟨w4.heap.size, 0, none⟩ = some (.int .i64 a0_0) := (blk_cell X0.out 0).trans rfl;
       have x1 : w10.cell? ⟨w4.heap.size, 1, none⟩ = some (.int .i64 a0_1) := (blk_cell X0.out 1).trans rfl;
       have x2 : w10.cell? ⟨w4.heap.size, 2, none⟩ = some (.slice (some ⟨g2, 0, none⟩) l0_2.length cc2) := (blk_cell X0.out 2).trans rfl;
       have x3 : w10.cell? ⟨w4.heap.size, 3, none⟩ = some (.slice (some ⟨g3, 0, none⟩) l0_3.length cc3) := (blk_cell X0.out 3).trans rfl;
       have y0 : w10.cell? ⟨w5.heap.size, 0, none⟩ = some (.int .i64 a1_0) := (blk_cell X1.out 0).trans rfl;
       have y1 : w10.cell? ⟨w5.heap.size, 1, none⟩ = some (.int .i64 a1_1) := (blk_cell X1.out 1).trans rfl;
       have y2 : w10.cell? ⟨w5.heap.size, 2, none⟩ = some (.slice (some ⟨g4, 0, none⟩) l1_2.length cc4) := (blk_cell X1.out 2).trans rfl;
       have y3 : w10.cell? ⟨w5.heap.size, 3, none⟩ = some (.slice (some ⟨g5, 0, none⟩) l1_3.length cc5) := (blk_cell X1.out 3).trans rfl;
       have gg0 : w10.cell? ⟨w6.heap.size, 0, none⟩ = some (.int .i64 R0) := (blk_cell G0.out 0).trans rfl;
       have gg1 : w10.cell? ⟨w6.heap.size, 1, none⟩ = some (.int .i64 R1) := (blk_cell G0.out 1).trans rfl;
       have gg2 : w10.cell? ⟨w6.heap.size, 2, none⟩ = some (.slice A7 L2.length e7) := (blk_cell G0.out 2).trans rfl;
       have gg3 : w10.cell? ⟨w6.heap.size, 3, none⟩ = some (.slice A8 L3.length e8) := (blk_cell G0.out 3).trans rfl;
       have TV7 := Aside0.mk (Kd.R_tight rfl V7.out);
       have TV8 := Aside0.mk (Kd.R_tight rfl V8.out);
       have HN7 : Aside0 (∀ k, (some k = (Value.slice A7 L2.length e7).ownBlock ∨ some k = (Value.slice A8 L3.length e8).ownBlock) → w5.heap.size < k ∧ k < w6.heap.size) := ⟨fun k hk => hk.elim (fun h => V7.out.1 k h.symm) (fun h => V8.out.1 k h.symm)⟩;
       clear hb; clear _t tok8; have tok9 : True := trivial)
    | (go_at_call 16; have _t := tok9; (with_reducible refine (laws_markFigure.calls KK R0 R1 (fun k => some k = (Value.slice A7 L2.length e7).ownBlock) _ L2 (fun k => some k = (Value.slice A8 L3.length e8).ownBlock) _ L3 101 mm (marks L2.length 101) (marks L3.length (101 + (L2.length : Int))) w _ HB.out TV7.out NE.out TV8.out NE2.out hMC.out).mono ?_); rintro e w11 ⟨rfl, hm2, hm3, hbw, hk⟩; have n0_ := Aside0.mk (hbw);
       have n1_ := Aside0.mk (blk_kept2 Q0.out hk (fun h => by have := HN7.out _ h; have := HG.out; have := HGB.out; have := HW2.out; have := HWX0.out; have := HWX1.out; have := HWY.out; omega));
       have n2_ := Aside0.mk (blk_kept2 P0.out hk (fun h => by have := HN7.out _ h; have := HG.out; have := HGB.out; have := HW2.out; have := HWX0.out; have := HWX1.out; have := HWY.out; omega));
       have n3_ := Aside0.mk (blk_kept2 W0.out hk (fun h => by have := HN7.out _ h; have := HG.out; have := HGB.out; have := HW2.out; have := HWX0.out; have := HWX1.out; have := HWY.out; omega));
       have n4_ := Aside0.mk (Kd.R_kept V2.out hk (fun k hk_ h => by have := HN7.out _ h; have := HG.out; have := HGB.out; have := HW2.out; have := HWX0.out; have := HWX1.out; have := HWY.out; omega));
       have n5_ := Aside0.mk (Kd.R_kept V3.out hk (fun k hk_ h => by have := HN7.out _ h; have := HG.out; have := HGB.out; have := HW2.out; have := HWX0.out; have := HWX1.out; have := HWY.out; omega));
       have n6_ := Aside0.mk (blk_kept2 X0.out hk (fun h => by have := HN7.out _ h; have := HG.out; have := HGB.out; have := HW2.out; have := HWX0.out; have := HWX1.out; have := HWY.out; omega));
       have n7_ := Aside0.mk (blk_kept2 X1.out hk (fun h => by have := HN7.out _ h; have := HG.out; have := HGB.out; have := HW2.out; have := HWX0.out; have := HWX1.out; have := HWY.out; omega));
       have n8_ := Aside0.mk (blk_kept2 G0.out hk (fun h => by have := HN7.out _ h; have := HG.out; have := HGB.out; have := HW2.out; have := HWX0.out; have := HWX1.out; have := HWY.out; omega));
       clear q0 q1 q2 q3 p0 p1 p2 p3 pp0 pp1 pp2 pp3 x0 x1 x2 x3 y0 y1 y2 y3 gg0 gg1 gg2 gg3 HB Q0 P0 W0 V2 V3 X0 X1 G0;
       have HB := n0_;
       have Q0 := n1_;
       have P0 := n2_;
       have W0 := n3_;
       have V2 := n4_;
       have V3 := n5_;
       have X0 := n6_;
       have X1 := n7_;
       have G0 := n8_;
       clear n0_ n1_ n2_ n3_ n4_ n5_ n6_ n7_ n8_;
       have V7n := Aside0.mk hm2;
       have V8n := Aside0.mk hm3;
       clear V7 V8;
       have V7 := V7n;
       have V8 := V8n;
       clear V7n V8n;
       have q0 : w11.cell? ⟨w.heap.size, 0, none⟩ = some (.int .i64 a0_0) := (blk_cell Q0.out 0).trans rfl;
       have q1 : w11.cell? ⟨w.heap.size, 1, none⟩ = some (.int .i64 a0_1) := (blk_cell Q0.out 1).trans rfl;
       have q2 : w11.cell? ⟨w.heap.size, 2, none⟩ = some (.slice A0_2 l0_2.length c0_2) := (blk_cell Q0.out 2).trans rfl;
       have q3 : w11.cell? ⟨w.heap.size, 3, none⟩ = some (.slice A0_3 l0_3.length c0_3) := (blk_cell Q0.out 3).trans rfl;
       have p0 : w11.cell? ⟨w.heap.size + 1, 0, none⟩ = some (.int .i64 a1_0) := (blk_cell P0.out 0).trans rfl;
       have p1 : w11.cell? ⟨w.heap.size + 1, 1, none⟩ = some (.int .i64 a1_1) := (blk_cell P0.out 1).trans rfl;
       have p2 : w11.cell? ⟨w.heap.size + 1, 2, none⟩ = some (.slice A1_2 l1_2.length c1_2) := (blk_cell P0.out 2).trans rfl;
       have p3 : w11.cell? ⟨w.heap.size + 1, 3, none⟩ = some (.slice A1_3 l1_3.length c1_3) := (blk_cell P0.out 3).trans rfl;
       have pp0 : w11.cell? ⟨bw, 0, none⟩ = some (.int .i64 R0) := (blk_cell W0.out 0).trans rfl;
       have pp1 : w11.cell? ⟨bw, 1, none⟩ = some (.int .i64 R1) := (blk_cell W0.out 1).trans rfl;
       have pp2 : w11.cell? ⟨bw, 2, none⟩ = some (.slice E2 L2.length f2) := (blk_cell W0.out 2).trans rfl;
       have pp3 : w11.cell? ⟨bw, 3, none⟩ = some (.slice E3 L3.length f3) := (blk_cell W0.out 3).trans rfl;
       have x0 : w11.cell? ⟨w4.heap.size, 0, none⟩ = some (.int .i64 a0_0) := (blk_cell X0.out 0).trans rfl;
       have x1 : w11.cell? ⟨w4.heap.size, 1, none⟩ = some (.int .i64 a0_1) := (blk_cell X0.out 1).trans rfl;
       have x2 : w11.cell? ⟨w4.heap.size, 2, none⟩ = some (.slice (some ⟨g2, 0, none⟩) l0_2.length cc2) := (blk_cell X0.out 2).trans rfl;
       have x3 : w11.cell? ⟨w4.heap.size, 3, none⟩ = some (.slice (some ⟨g3, 0, none⟩) l0_3.length cc3) := (blk_cell X0.out 3).trans rfl;
       have y0 : w11.cell? ⟨w5.heap.size, 0, none⟩ = some (.int .i64 a1_0) := (blk_cell X1.out 0).trans rfl;
       have y1 : w11.cell? ⟨w5.heap.size, 1, none⟩ = some (.int .i64 a1_1) := (blk_cell X1.out 1).trans rfl;
       have y2 : w11.cell? ⟨w5.heap.size, 2, none⟩ = some (.slice (some ⟨g4, 0, none⟩) l1_2.length cc4) := (blk_cell X1.out 2).trans rfl;
       have y3 : w11.cell? ⟨w5.heap.size, 3, none⟩ = some (.slice (some ⟨g5, 0, none⟩) l1_3.length cc5) := (blk_cell X1.out 3).trans rfl;
       have gg0 : w11.cell? ⟨w6.heap.size, 0, none⟩ = some (.int .i64 R0) := (blk_cell G0.out 0).trans rfl;
       have gg1 : w11.cell? ⟨w6.heap.size, 1, none⟩ = some (.int .i64 R1) := (blk_cell G0.out 1).trans rfl;
       have gg2 : w11.cell? ⟨w6.heap.size, 2, none⟩ = some (.slice A7 L2.length e7) := (blk_cell G0.out 2).trans rfl;
       have gg3 : w11.cell? ⟨w6.heap.size, 3, none⟩ = some (.slice A8 L3.length e8) := (blk_cell G0.out 3).trans rfl;
       clear hm2 hm3 hbw hk TV7 TV8 HN7; clear _t tok9; have tok10 : True := trivial)
    | (go_at_call 17; have _t := tok10; (with_reducible refine (heldFigure_marks KK R0 R1 L2.length L3.length mm A7 e7 A8 e8 _ _ _ _ V7.out V8.out hHC.out).mono ?_); rintro e w12 ⟨rfl, hb⟩; have n0_ := Aside0.mk (below_step HB.out hb);
       have n1_ := Aside0.mk (blk_keep Q0.out hb);
       have n2_ := Aside0.mk (blk_keep P0.out hb);
       have n3_ := Aside0.mk (blk_keep W0.out hb);
       have n4_ := Aside0.mk (Kd.R_below V2.out hb);
       have n5_ := Aside0.mk (Kd.R_below V3.out hb);
       have n6_ := Aside0.mk (blk_keep X0.out hb);
       have n7_ := Aside0.mk (blk_keep X1.out hb);
       have n8_ := Aside0.mk (blk_keep G0.out hb);
       have n9_ := Aside0.mk (Kd.R_below V7.out hb);
       have n10_ := Aside0.mk (Kd.R_below V8.out hb);
       clear q0 q1 q2 q3 p0 p1 p2 p3 pp0 pp1 pp2 pp3 x0 x1 x2 x3 y0 y1 y2 y3 gg0 gg1 gg2 gg3 HB Q0 P0 W0 V2 V3 X0 X1 G0 V7 V8;
       have HB := n0_;
       have Q0 := n1_;
       have P0 := n2_;
       have W0 := n3_;
       have V2 := n4_;
       have V3 := n5_;
       have X0 := n6_;
       have X1 := n7_;
       have G0 := n8_;
       have V7 := n9_;
       have V8 := n10_;
       clear n0_ n1_ n2_ n3_ n4_ n5_ n6_ n7_ n8_ n9_ n10_;
       have q0 : w12.cell? ⟨w.heap.size, 0, none⟩ = some (.int .i64 a0_0) := (blk_cell Q0.out 0).trans rfl;
       have q1 : w12.cell? ⟨w.heap.size, 1, none⟩ = some (.int .i64 a0_1) := (blk_cell Q0.out 1).trans rfl;
       have q2 : w12.cell? ⟨w.heap.size, 2, none⟩ = some (.slice A0_2 l0_2.length c0_2) := (blk_cell Q0.out 2).trans rfl;
       have q3 : w12.cell? ⟨w.heap.size, 3, none⟩ = some (.slice A0_3 l0_3.length c0_3) := (blk_cell Q0.out 3).trans rfl;
       have p0 : w12.cell? ⟨w.heap.size + 1, 0, none⟩ = some (.int .i64 a1_0) := (blk_cell P0.out 0).trans rfl;
       have p1 : w12.cell? ⟨w.heap.size + 1, 1, none⟩ = some (.int .i64 a1_1) := (blk_cell P0.out 1).trans rfl;
       have p2 : w12.cell? ⟨w.heap.size + 1, 2, none⟩ = some (.slice A1_2 l1_2.length c1_2) := (blk_cell P0.out 2).trans rfl;
       have p3 : w12.cell? ⟨w.heap.size + 1, 3, none⟩ = some (.slice A1_3 l1_3.length c1_3) := (blk_cell P0.out 3).trans rfl;
       have pp0 : w12.cell? ⟨bw, 0, none⟩ = some (.int .i64 R0) := (blk_cell W0.out 0).trans rfl;
       have pp1 : w12.cell? ⟨bw, 1, none⟩ = some (.int .i64 R1) := (blk_cell W0.out 1).trans rfl;
       have pp2 : w12.cell? ⟨bw, 2, none⟩ = some (.slice E2 L2.length f2) := (blk_cell W0.out 2).trans rfl;
       have pp3 : w12.cell? ⟨bw, 3, none⟩ = some (.slice E3 L3.length f3) := (blk_cell W0.out 3).trans rfl;
       have x0 : w12.cell? ⟨w4.heap.size, 0, none⟩ = some (.int .i64 a0_0) := (blk_cell X0.out 0).trans rfl;
       have x1 : w12.cell? ⟨w4.heap.size, 1, none⟩ = some (.int .i64 a0_1) := (blk_cell X0.out 1).trans rfl;
       have x2 : w12.cell? ⟨w4.heap.size, 2, none⟩ = some (.slice (some ⟨g2, 0, none⟩) l0_2.length cc2) := (blk_cell X0.out 2).trans rfl;
       have x3 : w12.cell? ⟨w4.heap.size, 3, none⟩ = some (.slice (some ⟨g3, 0, none⟩) l0_3.length cc3) := (blk_cell X0.out 3).trans rfl;
       have y0 : w12.cell? ⟨w5.heap.size, 0, none⟩ = some (.int .i64 a1_0) := (blk_cell X1.out 0).trans rfl;
       have y1 : w12.cell? ⟨w5.heap.size, 1, none⟩ = some (.int .i64 a1_1) := (blk_cell X1.out 1).trans rfl;
       have y2 : w12.cell? ⟨w5.heap.size, 2, none⟩ = some (.slice (some ⟨g4, 0, none⟩) l1_2.length cc4) := (blk_cell X1.out 2).trans rfl;
       have y3 : w12.cell? ⟨w5.heap.size, 3, none⟩ = some (.slice (some ⟨g5, 0, none⟩) l1_3.length cc5) := (blk_cell X1.out 3).trans rfl;
       have gg0 : w12.cell? ⟨w6.heap.size, 0, none⟩ = some (.int .i64 R0) := (blk_cell G0.out 0).trans rfl;
       have gg1 : w12.cell? ⟨w6.heap.size, 1, none⟩ = some (.int .i64 R1) := (blk_cell G0.out 1).trans rfl;
       have gg2 : w12.cell? ⟨w6.heap.size, 2, none⟩ = some (.slice A7 L2.length e7) := (blk_cell G0.out 2).trans rfl;
       have gg3 : w12.cell? ⟨w6.heap.size, 3, none⟩ = some (.slice A8 L3.length e8) := (blk_cell G0.out 3).trans rfl;
       clear hb; clear _t tok10; have tok11 : True := trivial))
  have n0_ := Aside0.mk (below_drew1 HB.out)
  have n1_ := Aside0.mk (blk_drew Q0.out)
  have n2_ := Aside0.mk (blk_drew P0.out)
  have n3_ := Aside0.mk (blk_drew W0.out)
  have n4_ := Aside0.mk (Kd.R_drew V2.out)
  have n5_ := Aside0.mk (Kd.R_drew V3.out)
  have n6_ := Aside0.mk (blk_drew X0.out)
  have n7_ := Aside0.mk (blk_drew X1.out)
  have n8_ := Aside0.mk (blk_drew G0.out)
  have n9_ := Aside0.mk (Kd.R_drew V7.out)
  have n10_ := Aside0.mk (Kd.R_drew V8.out)
  clear q0 q1 q2 q3 p0 p1 p2 p3 pp0 pp1 pp2 pp3 x0 x1 x2 x3 y0 y1 y2 y3 gg0 gg1 gg2 gg3 HB Q0 P0 W0 V2 V3 X0 X1 G0 V7 V8
  have HB := n0_
  have Q0 := n1_
  have P0 := n2_
  have W0 := n3_
  have V2 := n4_
  have V3 := n5_
  have X0 := n6_
  have X1 := n7_
  have G0 := n8_
  have V7 := n9_
  have V8 := n10_
  clear n0_ n1_ n2_ n3_ n4_ n5_ n6_ n7_ n8_ n9_ n10_
  refine start_ (n := 11) (S := fun w' => w'.cell? ⟨w.heap.size, 0, none⟩ = some (.int .i64 a0_0) ∧ w'.cell? ⟨w.heap.size, 1, none⟩ = some (.int .i64 a0_1) ∧ w'.cell? ⟨w.heap.size, 2, none⟩ = some (.slice A0_2 l0_2.length c0_2) ∧ w'.cell? ⟨w.heap.size, 3, none⟩ = some (.slice A0_3 l0_3.length c0_3) ∧ w'.cell? ⟨w.heap.size + 1, 0, none⟩ = some (.int .i64 a1_0) ∧ w'.cell? ⟨w.heap.size + 1, 1, none⟩ = some (.int .i64 a1_1) ∧ w'.cell? ⟨w.heap.size + 1, 2, none⟩ = some (.slice A1_2 l1_2.length c1_2) ∧ w'.cell? ⟨w.heap.size + 1, 3, none⟩ = some (.slice A1_3 l1_3.length c1_3)) (ds := []) #[Ff, Ff, Ff, Ff, Ff, Ff, Ff, Ff, Ff, Ff, Ff] (by kernel_rfl) rfl rfl ⟨(blk_cell Q0.out 0).trans rfl, (blk_cell Q0.out 1).trans rfl, (blk_cell Q0.out 2).trans rfl, (blk_cell Q0.out 3).trans rfl, (blk_cell P0.out 0).trans rfl, (blk_cell P0.out 1).trans rfl, (blk_cell P0.out 2).trans rfl, (blk_cell P0.out 3).trans rfl⟩ (fun hHeld => ?_)
  refine with_tabW joinF_tab31 joinF_bits31 (fun HT_ HW_ => ?_)
  generalize w12.drew = W5 at HB Q0 P0 W0 V2 V3 X0 X1 G0 V7 V8 hHeld ⊢
  have hS : ∀ w', Below W5.heap.size W5 w' → w'.cell? ⟨w.heap.size, 0, none⟩ = some (.int .i64 a0_0) ∧ w'.cell? ⟨w.heap.size, 1, none⟩ = some (.int .i64 a0_1) ∧ w'.cell? ⟨w.heap.size, 2, none⟩ = some (.slice A0_2 l0_2.length c0_2) ∧ w'.cell? ⟨w.heap.size, 3, none⟩ = some (.slice A0_3 l0_3.length c0_3) ∧ w'.cell? ⟨w.heap.size + 1, 0, none⟩ = some (.int .i64 a1_0) ∧ w'.cell? ⟨w.heap.size + 1, 1, none⟩ = some (.int .i64 a1_1) ∧ w'.cell? ⟨w.heap.size + 1, 2, none⟩ = some (.slice A1_2 l1_2.length c1_2) ∧ w'.cell? ⟨w.heap.size + 1, 3, none⟩ = some (.slice A1_3 l1_3.length c1_3) := fun w' hb => ⟨(hb.cell (World.block_lt_of_cell? W5 _ (hHeld.1))).trans (hHeld.1), (hb.cell (World.block_lt_of_cell? W5 _ (hHeld.2.1))).trans (hHeld.2.1), (hb.cell (World.block_lt_of_cell? W5 _ (hHeld.2.2.1))).trans (hHeld.2.2.1), (hb.cell (World.block_lt_of_cell? W5 _ (hHeld.2.2.2.1))).trans (hHeld.2.2.2.1), (hb.cell (World.block_lt_of_cell? W5 _ (hHeld.2.2.2.2.1))).trans (hHeld.2.2.2.2.1), (hb.cell (World.block_lt_of_cell? W5 _ (hHeld.2.2.2.2.2.1))).trans (hHeld.2.2.2.2.2.1), (hb.cell (World.block_lt_of_cell? W5 _ (hHeld.2.2.2.2.2.2.1))).trans (hHeld.2.2.2.2.2.2.1), (hb.cell (World.block_lt_of_cell? W5 _ (hHeld.2.2.2.2.2.2.2))).trans (hHeld.2.2.2.2.2.2.2)⟩
  have HB5 : Aside0 (Below W5.heap.size W5 W5) := ⟨Below.refl _ _⟩
  refine tZ (i := 0) (N := some 95) #[Tt, Ff, Ff, Ff, Ff, Ff, Ff, Ff, Ff, Ff, Ff] ?_
  refine tZ (i := 2) (N := some 97) #[Tt, Ff, Tt, Ff, Ff, Ff, Ff, Ff, Ff, Ff, Ff] ?_
  refine join_ (σ := Value × Value × Value × Value × Value × Value × Nat) 2 #[Tt, Tt, Tt, Tt, Tt, Tt, Tt, Tt, Tt, Ff, Ff] (fun s_ => [(96, .agg #[.int .i64 a0_0, .int .i64 a0_1, s_.1, s_.2.1]), (98, .agg #[.int .i64 a1_0, .int .i64 a1_1, s_.2.2.1, s_.2.2.2.1]), (99, .tuple #[.agg #[.int .i64 R0, .int .i64 R1, s_.2.2.2.2.1, s_.2.2.2.2.2.1], .bool R2]), (94, .tuple #[.agg #[.int .i64 R0, .int .i64 R1, s_.2.2.2.2.1, s_.2.2.2.2.2.1], .bool R2]), (100, .agg #[.int .i64 R0, .int .i64 R1, s_.2.2.2.2.1, s_.2.2.2.2.2.1]), (101, .bool R2), (15, .pointer (some ⟨s_.2.2.2.2.2.2, 0, none⟩))]) (fun s_ w' => Below W5.heap.size W5 w' ∧ Kd.R (Kd.int .i64) 3 w' W5.heap.size (fun k_ => some k_ ≠ (s_.2.2.2.2.2.1 : Value).ownBlock) s_.2.2.2.2.1 L2 ∧ Kd.R (Kd.int .i64) 3 w' W5.heap.size (fun k_ => some k_ ≠ (s_.2.2.2.2.1 : Value).ownBlock) s_.2.2.2.2.2.1 L3 ∧ w'.heap[s_.2.2.2.2.2.2]? = some (.cells #[.int .i64 0, .int .i64 0, .slice none 0 0, .slice none 0 0] 26 (0, 0)) ∧ W5.heap.size ≤ s_.2.2.2.2.2.2) ?_ ?_
  rotate_left
  · intro hCont
    have hbs := HB5.out.size
    refine two_ (i := 1) (j := 8) (Ni := some 96) (Nj := some 15) #[Tt, Tt, Tt, Ff, Ff, Ff, Ff, Ff, Ff, Ff, Ff] #[Tt, Ff, Tt, Ff, Ff, Ff, Ff, Ff, Tt, Ff, Ff] rfl rfl rfl rfl (two_of HT_.out (by kernel_rfl)) (by decide) (by decide) (fun K hK => ?_) (fun K hK => ?_)
    · refine goes_ Tryd.func12 (by kernel_rfl) rfl #[.agg #[.int .i64 a0_0, .int .i64 a0_1, .slice A0_2 l0_2.length c0_2, .slice A0_3 l0_3.length c0_3], .bool true] (by rfl) rfl rfl (by (try simp only [List.map_toArray, List.map_cons, List.map_nil]); first | done | rfl) ?_
      with_reducible refine (laws_toFigure.calls KK a0_0 a0_1 A0_2 c0_2 l0_2 A0_3 c0_3 l0_3 true a0_0 a0_1 l0_2 l0_3 _ (Kd.C_below HR0_2.out (below_step HB.out HB5.out)) HC0_2.out (Kd.C_below HR0_3.out (below_step HB.out HB5.out)) HC0_3.out hT1.out).mono ?_
      rintro e v6 ⟨vu, vv, rfl, hou, hov, hb⟩
      refine ⟨_, rfl, ?_⟩
      have n0_ := Aside0.mk (below_step HB5.out hb)
      have m0_ := Aside0.mk (Kd.R_lower hou HB5.out.size)
      have m1_ := Aside0.mk (Kd.R_lower hov HB5.out.size)
      clear HB5
      have HB5 := n0_
      have HU2 := m0_
      have HU3 := m1_
      clear n0_ m0_ m1_
      clear hou hov hb
      obtain ⟨B2, d2, rfl⟩ := Kd.R_slice HU2.out
      obtain ⟨B3, d3, rfl⟩ := Kd.R_slice HU3.out
      refine hK.out _ _ (hS _ HB5.out) (fun hHeld => ?_)
      clear hK K
      refine norm_ (a' := _) ap_ ?_
      have hbs := HB5.out.size
      refine two_ (i := 3) (j := 8) (Ni := some 98) (Nj := some 15) #[Tt, Tt, Tt, Tt, Ff, Ff, Ff, Ff, Ff, Ff, Ff] #[Tt, Tt, Tt, Ff, Ff, Ff, Ff, Ff, Tt, Ff, Ff] rfl rfl rfl rfl (two_of HT_.out (by kernel_rfl)) (by decide) (by decide) (fun K hK => ?_) (fun K hK => ?_)
      · refine goes_ Tryd.func12 (by kernel_rfl) rfl #[.agg #[.int .i64 a1_0, .int .i64 a1_1, .slice A1_2 l1_2.length c1_2, .slice A1_3 l1_3.length c1_3], .bool true] (by rfl) rfl rfl (by (try simp only [List.map_toArray, List.map_cons, List.map_nil]); first | done | rfl) ?_
        with_reducible refine (laws_toFigure.calls KK a1_0 a1_1 A1_2 c1_2 l1_2 A1_3 c1_3 l1_3 true a1_0 a1_1 l1_2 l1_3 _ (Kd.C_below HR1_2.out (below_step HB.out HB5.out)) HC1_2.out (Kd.C_below HR1_3.out (below_step HB.out HB5.out)) HC1_3.out hV1.out).mono ?_
        rintro e v7 ⟨vu, vv, rfl, hou, hov, hb⟩
        refine ⟨_, rfl, ?_⟩
        have n0_ := Aside0.mk (below_step HB5.out hb)
        have n1_ := Aside0.mk (Kd.R_below HU2.out hb)
        have n2_ := Aside0.mk (Kd.R_below HU3.out hb)
        have m0_ := Aside0.mk (Kd.R_lower hou HB5.out.size)
        have m1_ := Aside0.mk (Kd.R_lower hov HB5.out.size)
        clear HB5 HU2 HU3
        have HB5 := n0_
        have HU2 := n1_
        have HU3 := n2_
        have HU4 := m0_
        have HU5 := m1_
        clear n0_ n1_ n2_ m0_ m1_
        clear hou hov hb
        obtain ⟨B4, d4, rfl⟩ := Kd.R_slice HU4.out
        obtain ⟨B5, d5, rfl⟩ := Kd.R_slice HU5.out
        refine hK.out _ _ (hS _ HB5.out) (fun hHeld => ?_)
        clear hK K
        refine norm_ (a' := _) ap_ ?_
        have hbs := HB5.out.size
        refine two_ (i := 4) (j := 8) (Ni := some 99) (Nj := some 15) #[Tt, Tt, Tt, Tt, Tt, Ff, Ff, Ff, Ff, Ff, Ff] #[Tt, Tt, Tt, Tt, Ff, Ff, Ff, Ff, Tt, Ff, Ff] rfl rfl rfl rfl (two_of HT_.out (by kernel_rfl)) (by decide) (by decide) (fun K hK => ?_) (fun K hK => ?_)
        · refine goes_ Tryd.func13 (by kernel_rfl) rfl #[.agg #[.int .i64 a0_0, .int .i64 a0_1, .slice B2 l0_2.length d2, .slice B3 l0_3.length d3], .agg #[.int .i64 a1_0, .int .i64 a1_1, .slice B4 l1_2.length d4, .slice B5 l1_3.length d5]] (by rfl) rfl rfl (by (try simp only [List.map_toArray, List.map_cons, List.map_nil]); first | done | rfl) ?_
          with_reducible refine (HI.out B2 d2 B3 d3 B4 d4 B5 d5 _ (Kd.R_reads' HU2.out).2.2 (Kd.R_reads' HU2.out).2.1 (Kd.R_reads' HU3.out).2.2 (Kd.R_reads' HU3.out).2.1 (Kd.R_reads' HU4.out).2.2 (Kd.R_reads' HU4.out).2.1 (Kd.R_reads' HU5.out).2.2 (Kd.R_reads' HU5.out).2.1 (HGT.out _ (below_step HB.out HB5.out))).mono ?_
          rintro e v8 ⟨vp, vq, rfl, hop, hoq, hb⟩
          refine ⟨_, rfl, ?_⟩
          have n0_ := Aside0.mk (below_step HB5.out hb)
          have n1_ := Aside0.mk (Kd.R_below HU2.out hb)
          have n2_ := Aside0.mk (Kd.R_below HU3.out hb)
          have n3_ := Aside0.mk (Kd.R_below HU4.out hb)
          have n4_ := Aside0.mk (Kd.R_below HU5.out hb)
          have m0_ := Aside0.mk (Kd.R_lower hop HB5.out.size)
          have m1_ := Aside0.mk (Kd.R_lower hoq HB5.out.size)
          clear HB5 HU2 HU3 HU4 HU5
          have HB5 := n0_
          have HU2 := n1_
          have HU3 := n2_
          have HU4 := n3_
          have HU5 := n4_
          have HP := m0_
          have HQ := m1_
          clear n0_ n1_ n2_ n3_ n4_ m0_ m1_
          clear hop hoq hb
          refine hK.out _ _ (hS _ HB5.out) (fun hHeld => ?_)
          clear hK K
          refine norm_ (a' := _) ap_ ?_
          refine pZ (i := 5) (N := some 94) #[Tt, Tt, Tt, Tt, Tt, Tt, Ff, Ff, Ff, Ff, Ff] ?_
          refine pZ (i := 6) (N := some 100) #[Tt, Tt, Tt, Tt, Tt, Tt, Tt, Ff, Ff, Ff, Ff] ?_
          refine pZ (i := 7) (N := some 101) #[Tt, Tt, Tt, Tt, Tt, Tt, Tt, Tt, Ff, Ff, Ff] ?_
          have hbs := HB5.out.size
          refine one_ (i := 8) (N := some 15) #[Tt, Tt, Tt, Tt, Tt, Tt, Tt, Tt, Tt, Ff, Ff] rfl rfl (one_of HT_.out (by kernel_rfl)) (by decide) (fun K hK => ?_)
          refine box_step ?hg (N := 15) ?hd (cs := #[.int .i64 0, .int .i64 0, .slice none 0 0, .slice none 0 0]) (t := 26) ?hr ?_; (case hd => rfl); (case hg => rfl); (case hr => first | (go_simp; done) | (go_simp; rfl))
          intro b6 hg v9 hbox hb
          have GB6 : Aside0 (W5.heap.size ≤ b6) := ⟨by rw [hg]; exact hbs⟩
          clear hg hbs
          have n0_ := Aside0.mk (below_step HB5.out hb)
          have n1_ := Aside0.mk (Kd.R_below HU2.out hb)
          have n2_ := Aside0.mk (Kd.R_below HU3.out hb)
          have n3_ := Aside0.mk (Kd.R_below HU4.out hb)
          have n4_ := Aside0.mk (Kd.R_below HU5.out hb)
          have n5_ := Aside0.mk (Kd.R_below HP.out hb)
          have n6_ := Aside0.mk (Kd.R_below HQ.out hb)
          have m0_ := Aside0.mk (hbox)
          clear HB5 HU2 HU3 HU4 HU5 HP HQ
          have HB5 := n0_
          have HU2 := n1_
          have HU3 := n2_
          have HU4 := n3_
          have HU5 := n4_
          have HP := n5_
          have HQ := n6_
          have BK6 := m0_
          clear n0_ n1_ n2_ n3_ n4_ n5_ n6_ m0_
          clear hb hbox
          refine hK.out _ _ (hS _ HB5.out) (fun hHeld => ?_)
          clear hK K
          refine norm_ (a' := _) ap_ ?_
          exact norm_ (by simp only [putAll, Act.put, List.setIfInBounds_toArray, List.set_cons_zero, List.set_cons_succ]) (hCont (.slice B2 l0_2.length d2, .slice B3 l0_3.length d3, .slice B4 l1_2.length d4, .slice B5 l1_3.length d5, vp, vq, b6) _ ⟨HB5.out, HP.out, HQ.out, BK6.out, GB6.out⟩)
        · refine box_step ?hg (N := 15) ?hd (cs := #[.int .i64 0, .int .i64 0, .slice none 0 0, .slice none 0 0]) (t := 26) ?hr ?_; (case hd => rfl); (case hg => rfl); (case hr => first | (go_simp; done) | (go_simp; rfl))
          intro b6 hg v8 hbox hb
          have GB6 : Aside0 (W5.heap.size ≤ b6) := ⟨by rw [hg]; exact hbs⟩
          clear hg hbs
          have n0_ := Aside0.mk (below_step HB5.out hb)
          have n1_ := Aside0.mk (Kd.R_below HU2.out hb)
          have n2_ := Aside0.mk (Kd.R_below HU3.out hb)
          have n3_ := Aside0.mk (Kd.R_below HU4.out hb)
          have n4_ := Aside0.mk (Kd.R_below HU5.out hb)
          have m0_ := Aside0.mk (hbox)
          clear HB5 HU2 HU3 HU4 HU5
          have HB5 := n0_
          have HU2 := n1_
          have HU3 := n2_
          have HU4 := n3_
          have HU5 := n4_
          have BK6 := m0_
          clear n0_ n1_ n2_ n3_ n4_ m0_
          clear hb hbox
          refine hK.out _ _ (hS _ HB5.out) (fun hHeld => ?_)
          clear hK K
          refine norm_ (a' := _) ap_ ?_
          refine one_ (i := 4) (N := some 99) #[Tt, Tt, Tt, Tt, Tt, Ff, Ff, Ff, Tt, Ff, Ff] rfl rfl (one_of HT_.out (by kernel_rfl)) (by decide) (fun K hK => ?_)
          refine goes_ Tryd.func13 (by kernel_rfl) rfl #[.agg #[.int .i64 a0_0, .int .i64 a0_1, .slice B2 l0_2.length d2, .slice B3 l0_3.length d3], .agg #[.int .i64 a1_0, .int .i64 a1_1, .slice B4 l1_2.length d4, .slice B5 l1_3.length d5]] (by rfl) rfl rfl (by (try simp only [List.map_toArray, List.map_cons, List.map_nil]); first | done | rfl) ?_
          with_reducible refine (HI.out B2 d2 B3 d3 B4 d4 B5 d5 _ (Kd.R_reads' HU2.out).2.2 (Kd.R_reads' HU2.out).2.1 (Kd.R_reads' HU3.out).2.2 (Kd.R_reads' HU3.out).2.1 (Kd.R_reads' HU4.out).2.2 (Kd.R_reads' HU4.out).2.1 (Kd.R_reads' HU5.out).2.2 (Kd.R_reads' HU5.out).2.1 (HGT.out _ (below_step HB.out HB5.out))).mono ?_
          rintro e v9 ⟨vp, vq, rfl, hop, hoq, hb⟩
          refine ⟨_, rfl, ?_⟩
          have n0_ := Aside0.mk (below_step HB5.out hb)
          have n1_ := Aside0.mk (Kd.R_below HU2.out hb)
          have n2_ := Aside0.mk (Kd.R_below HU3.out hb)
          have n3_ := Aside0.mk (Kd.R_below HU4.out hb)
          have n4_ := Aside0.mk (Kd.R_below HU5.out hb)
          have n5_ := Aside0.mk (blk_below BK6.out hb)
          have m0_ := Aside0.mk (Kd.R_lower hop HB5.out.size)
          have m1_ := Aside0.mk (Kd.R_lower hoq HB5.out.size)
          clear HB5 HU2 HU3 HU4 HU5 BK6
          have HB5 := n0_
          have HU2 := n1_
          have HU3 := n2_
          have HU4 := n3_
          have HU5 := n4_
          have BK6 := n5_
          have HP := m0_
          have HQ := m1_
          clear n0_ n1_ n2_ n3_ n4_ n5_ m0_ m1_
          clear hop hoq hb
          refine hK.out _ _ (hS _ HB5.out) (fun hHeld => ?_)
          clear hK K
          refine norm_ (a' := _) ap_ ?_
          refine pZ (i := 5) (N := some 94) #[Tt, Tt, Tt, Tt, Tt, Tt, Ff, Ff, Tt, Ff, Ff] ?_
          refine pZ (i := 6) (N := some 100) #[Tt, Tt, Tt, Tt, Tt, Tt, Tt, Ff, Tt, Ff, Ff] ?_
          refine pZ (i := 7) (N := some 101) #[Tt, Tt, Tt, Tt, Tt, Tt, Tt, Tt, Tt, Ff, Ff] ?_
          exact norm_ (by simp only [putAll, Act.put, List.setIfInBounds_toArray, List.set_cons_zero, List.set_cons_succ]) (hCont (.slice B2 l0_2.length d2, .slice B3 l0_3.length d3, .slice B4 l1_2.length d4, .slice B5 l1_3.length d5, vp, vq, b6) _ ⟨HB5.out, HP.out, HQ.out, BK6.out, GB6.out⟩)
      · refine box_step ?hg (N := 15) ?hd (cs := #[.int .i64 0, .int .i64 0, .slice none 0 0, .slice none 0 0]) (t := 26) ?hr ?_; (case hd => rfl); (case hg => rfl); (case hr => first | (go_simp; done) | (go_simp; rfl))
        intro b6 hg v7 hbox hb
        have GB6 : Aside0 (W5.heap.size ≤ b6) := ⟨by rw [hg]; exact hbs⟩
        clear hg hbs
        have n0_ := Aside0.mk (below_step HB5.out hb)
        have n1_ := Aside0.mk (Kd.R_below HU2.out hb)
        have n2_ := Aside0.mk (Kd.R_below HU3.out hb)
        have m0_ := Aside0.mk (hbox)
        clear HB5 HU2 HU3
        have HB5 := n0_
        have HU2 := n1_
        have HU3 := n2_
        have BK6 := m0_
        clear n0_ n1_ n2_ m0_
        clear hb hbox
        refine hK.out _ _ (hS _ HB5.out) (fun hHeld => ?_)
        clear hK K
        refine norm_ (a' := _) ap_ ?_
        refine one_ (i := 3) (N := some 98) #[Tt, Tt, Tt, Tt, Ff, Ff, Ff, Ff, Tt, Ff, Ff] rfl rfl (one_of HT_.out (by kernel_rfl)) (by decide) (fun K hK => ?_)
        refine goes_ Tryd.func12 (by kernel_rfl) rfl #[.agg #[.int .i64 a1_0, .int .i64 a1_1, .slice A1_2 l1_2.length c1_2, .slice A1_3 l1_3.length c1_3], .bool true] (by rfl) rfl rfl (by (try simp only [List.map_toArray, List.map_cons, List.map_nil]); first | done | rfl) ?_
        with_reducible refine (laws_toFigure.calls KK a1_0 a1_1 A1_2 c1_2 l1_2 A1_3 c1_3 l1_3 true a1_0 a1_1 l1_2 l1_3 _ (Kd.C_below HR1_2.out (below_step HB.out HB5.out)) HC1_2.out (Kd.C_below HR1_3.out (below_step HB.out HB5.out)) HC1_3.out hV1.out).mono ?_
        rintro e v8 ⟨vu, vv, rfl, hou, hov, hb⟩
        refine ⟨_, rfl, ?_⟩
        have n0_ := Aside0.mk (below_step HB5.out hb)
        have n1_ := Aside0.mk (Kd.R_below HU2.out hb)
        have n2_ := Aside0.mk (Kd.R_below HU3.out hb)
        have n3_ := Aside0.mk (blk_below BK6.out hb)
        have m0_ := Aside0.mk (Kd.R_lower hou HB5.out.size)
        have m1_ := Aside0.mk (Kd.R_lower hov HB5.out.size)
        clear HB5 HU2 HU3 BK6
        have HB5 := n0_
        have HU2 := n1_
        have HU3 := n2_
        have BK6 := n3_
        have HU4 := m0_
        have HU5 := m1_
        clear n0_ n1_ n2_ n3_ m0_ m1_
        clear hou hov hb
        obtain ⟨B4, d4, rfl⟩ := Kd.R_slice HU4.out
        obtain ⟨B5, d5, rfl⟩ := Kd.R_slice HU5.out
        refine hK.out _ _ (hS _ HB5.out) (fun hHeld => ?_)
        clear hK K
        refine norm_ (a' := _) ap_ ?_
        refine one_ (i := 4) (N := some 99) #[Tt, Tt, Tt, Tt, Tt, Ff, Ff, Ff, Tt, Ff, Ff] rfl rfl (one_of HT_.out (by kernel_rfl)) (by decide) (fun K hK => ?_)
        refine goes_ Tryd.func13 (by kernel_rfl) rfl #[.agg #[.int .i64 a0_0, .int .i64 a0_1, .slice B2 l0_2.length d2, .slice B3 l0_3.length d3], .agg #[.int .i64 a1_0, .int .i64 a1_1, .slice B4 l1_2.length d4, .slice B5 l1_3.length d5]] (by rfl) rfl rfl (by (try simp only [List.map_toArray, List.map_cons, List.map_nil]); first | done | rfl) ?_
        with_reducible refine (HI.out B2 d2 B3 d3 B4 d4 B5 d5 _ (Kd.R_reads' HU2.out).2.2 (Kd.R_reads' HU2.out).2.1 (Kd.R_reads' HU3.out).2.2 (Kd.R_reads' HU3.out).2.1 (Kd.R_reads' HU4.out).2.2 (Kd.R_reads' HU4.out).2.1 (Kd.R_reads' HU5.out).2.2 (Kd.R_reads' HU5.out).2.1 (HGT.out _ (below_step HB.out HB5.out))).mono ?_
        rintro e v9 ⟨vp, vq, rfl, hop, hoq, hb⟩
        refine ⟨_, rfl, ?_⟩
        have n0_ := Aside0.mk (below_step HB5.out hb)
        have n1_ := Aside0.mk (Kd.R_below HU2.out hb)
        have n2_ := Aside0.mk (Kd.R_below HU3.out hb)
        have n3_ := Aside0.mk (blk_below BK6.out hb)
        have n4_ := Aside0.mk (Kd.R_below HU4.out hb)
        have n5_ := Aside0.mk (Kd.R_below HU5.out hb)
        have m0_ := Aside0.mk (Kd.R_lower hop HB5.out.size)
        have m1_ := Aside0.mk (Kd.R_lower hoq HB5.out.size)
        clear HB5 HU2 HU3 BK6 HU4 HU5
        have HB5 := n0_
        have HU2 := n1_
        have HU3 := n2_
        have BK6 := n3_
        have HU4 := n4_
        have HU5 := n5_
        have HP := m0_
        have HQ := m1_
        clear n0_ n1_ n2_ n3_ n4_ n5_ m0_ m1_
        clear hop hoq hb
        refine hK.out _ _ (hS _ HB5.out) (fun hHeld => ?_)
        clear hK K
        refine norm_ (a' := _) ap_ ?_
        refine pZ (i := 5) (N := some 94) #[Tt, Tt, Tt, Tt, Tt, Tt, Ff, Ff, Tt, Ff, Ff] ?_
        refine pZ (i := 6) (N := some 100) #[Tt, Tt, Tt, Tt, Tt, Tt, Tt, Ff, Tt, Ff, Ff] ?_
        refine pZ (i := 7) (N := some 101) #[Tt, Tt, Tt, Tt, Tt, Tt, Tt, Tt, Tt, Ff, Ff] ?_
        exact norm_ (by simp only [putAll, Act.put, List.setIfInBounds_toArray, List.set_cons_zero, List.set_cons_succ]) (hCont (.slice B2 l0_2.length d2, .slice B3 l0_3.length d3, .slice B4 l1_2.length d4, .slice B5 l1_3.length d5, vp, vq, b6) _ ⟨HB5.out, HP.out, HQ.out, BK6.out, GB6.out⟩)
    · refine box_step ?hg (N := 15) ?hd (cs := #[.int .i64 0, .int .i64 0, .slice none 0 0, .slice none 0 0]) (t := 26) ?hr ?_; (case hd => rfl); (case hg => rfl); (case hr => first | (go_simp; done) | (go_simp; rfl))
      intro b6 hg v6 hbox hb
      have GB6 : Aside0 (W5.heap.size ≤ b6) := ⟨by rw [hg]; exact hbs⟩
      clear hg hbs
      have n0_ := Aside0.mk (below_step HB5.out hb)
      have m0_ := Aside0.mk (hbox)
      clear HB5
      have HB5 := n0_
      have BK6 := m0_
      clear n0_ m0_
      clear hb hbox
      refine hK.out _ _ (hS _ HB5.out) (fun hHeld => ?_)
      clear hK K
      refine norm_ (a' := _) ap_ ?_
      refine one_ (i := 1) (N := some 96) #[Tt, Tt, Tt, Ff, Ff, Ff, Ff, Ff, Tt, Ff, Ff] rfl rfl (one_of HT_.out (by kernel_rfl)) (by decide) (fun K hK => ?_)
      refine goes_ Tryd.func12 (by kernel_rfl) rfl #[.agg #[.int .i64 a0_0, .int .i64 a0_1, .slice A0_2 l0_2.length c0_2, .slice A0_3 l0_3.length c0_3], .bool true] (by rfl) rfl rfl (by (try simp only [List.map_toArray, List.map_cons, List.map_nil]); first | done | rfl) ?_
      with_reducible refine (laws_toFigure.calls KK a0_0 a0_1 A0_2 c0_2 l0_2 A0_3 c0_3 l0_3 true a0_0 a0_1 l0_2 l0_3 _ (Kd.C_below HR0_2.out (below_step HB.out HB5.out)) HC0_2.out (Kd.C_below HR0_3.out (below_step HB.out HB5.out)) HC0_3.out hT1.out).mono ?_
      rintro e v7 ⟨vu, vv, rfl, hou, hov, hb⟩
      refine ⟨_, rfl, ?_⟩
      have n0_ := Aside0.mk (below_step HB5.out hb)
      have n1_ := Aside0.mk (blk_below BK6.out hb)
      have m0_ := Aside0.mk (Kd.R_lower hou HB5.out.size)
      have m1_ := Aside0.mk (Kd.R_lower hov HB5.out.size)
      clear HB5 BK6
      have HB5 := n0_
      have BK6 := n1_
      have HU2 := m0_
      have HU3 := m1_
      clear n0_ n1_ m0_ m1_
      clear hou hov hb
      obtain ⟨B2, d2, rfl⟩ := Kd.R_slice HU2.out
      obtain ⟨B3, d3, rfl⟩ := Kd.R_slice HU3.out
      refine hK.out _ _ (hS _ HB5.out) (fun hHeld => ?_)
      clear hK K
      refine norm_ (a' := _) ap_ ?_
      refine one_ (i := 3) (N := some 98) #[Tt, Tt, Tt, Tt, Ff, Ff, Ff, Ff, Tt, Ff, Ff] rfl rfl (one_of HT_.out (by kernel_rfl)) (by decide) (fun K hK => ?_)
      refine goes_ Tryd.func12 (by kernel_rfl) rfl #[.agg #[.int .i64 a1_0, .int .i64 a1_1, .slice A1_2 l1_2.length c1_2, .slice A1_3 l1_3.length c1_3], .bool true] (by rfl) rfl rfl (by (try simp only [List.map_toArray, List.map_cons, List.map_nil]); first | done | rfl) ?_
      with_reducible refine (laws_toFigure.calls KK a1_0 a1_1 A1_2 c1_2 l1_2 A1_3 c1_3 l1_3 true a1_0 a1_1 l1_2 l1_3 _ (Kd.C_below HR1_2.out (below_step HB.out HB5.out)) HC1_2.out (Kd.C_below HR1_3.out (below_step HB.out HB5.out)) HC1_3.out hV1.out).mono ?_
      rintro e v8 ⟨vu, vv, rfl, hou, hov, hb⟩
      refine ⟨_, rfl, ?_⟩
      have n0_ := Aside0.mk (below_step HB5.out hb)
      have n1_ := Aside0.mk (blk_below BK6.out hb)
      have n2_ := Aside0.mk (Kd.R_below HU2.out hb)
      have n3_ := Aside0.mk (Kd.R_below HU3.out hb)
      have m0_ := Aside0.mk (Kd.R_lower hou HB5.out.size)
      have m1_ := Aside0.mk (Kd.R_lower hov HB5.out.size)
      clear HB5 BK6 HU2 HU3
      have HB5 := n0_
      have BK6 := n1_
      have HU2 := n2_
      have HU3 := n3_
      have HU4 := m0_
      have HU5 := m1_
      clear n0_ n1_ n2_ n3_ m0_ m1_
      clear hou hov hb
      obtain ⟨B4, d4, rfl⟩ := Kd.R_slice HU4.out
      obtain ⟨B5, d5, rfl⟩ := Kd.R_slice HU5.out
      refine hK.out _ _ (hS _ HB5.out) (fun hHeld => ?_)
      clear hK K
      refine norm_ (a' := _) ap_ ?_
      refine one_ (i := 4) (N := some 99) #[Tt, Tt, Tt, Tt, Tt, Ff, Ff, Ff, Tt, Ff, Ff] rfl rfl (one_of HT_.out (by kernel_rfl)) (by decide) (fun K hK => ?_)
      refine goes_ Tryd.func13 (by kernel_rfl) rfl #[.agg #[.int .i64 a0_0, .int .i64 a0_1, .slice B2 l0_2.length d2, .slice B3 l0_3.length d3], .agg #[.int .i64 a1_0, .int .i64 a1_1, .slice B4 l1_2.length d4, .slice B5 l1_3.length d5]] (by rfl) rfl rfl (by (try simp only [List.map_toArray, List.map_cons, List.map_nil]); first | done | rfl) ?_
      with_reducible refine (HI.out B2 d2 B3 d3 B4 d4 B5 d5 _ (Kd.R_reads' HU2.out).2.2 (Kd.R_reads' HU2.out).2.1 (Kd.R_reads' HU3.out).2.2 (Kd.R_reads' HU3.out).2.1 (Kd.R_reads' HU4.out).2.2 (Kd.R_reads' HU4.out).2.1 (Kd.R_reads' HU5.out).2.2 (Kd.R_reads' HU5.out).2.1 (HGT.out _ (below_step HB.out HB5.out))).mono ?_
      rintro e v9 ⟨vp, vq, rfl, hop, hoq, hb⟩
      refine ⟨_, rfl, ?_⟩
      have n0_ := Aside0.mk (below_step HB5.out hb)
      have n1_ := Aside0.mk (blk_below BK6.out hb)
      have n2_ := Aside0.mk (Kd.R_below HU2.out hb)
      have n3_ := Aside0.mk (Kd.R_below HU3.out hb)
      have n4_ := Aside0.mk (Kd.R_below HU4.out hb)
      have n5_ := Aside0.mk (Kd.R_below HU5.out hb)
      have m0_ := Aside0.mk (Kd.R_lower hop HB5.out.size)
      have m1_ := Aside0.mk (Kd.R_lower hoq HB5.out.size)
      clear HB5 BK6 HU2 HU3 HU4 HU5
      have HB5 := n0_
      have BK6 := n1_
      have HU2 := n2_
      have HU3 := n3_
      have HU4 := n4_
      have HU5 := n5_
      have HP := m0_
      have HQ := m1_
      clear n0_ n1_ n2_ n3_ n4_ n5_ m0_ m1_
      clear hop hoq hb
      refine hK.out _ _ (hS _ HB5.out) (fun hHeld => ?_)
      clear hK K
      refine norm_ (a' := _) ap_ ?_
      refine pZ (i := 5) (N := some 94) #[Tt, Tt, Tt, Tt, Tt, Tt, Ff, Ff, Tt, Ff, Ff] ?_
      refine pZ (i := 6) (N := some 100) #[Tt, Tt, Tt, Tt, Tt, Tt, Tt, Ff, Tt, Ff, Ff] ?_
      refine pZ (i := 7) (N := some 101) #[Tt, Tt, Tt, Tt, Tt, Tt, Tt, Tt, Tt, Ff, Ff] ?_
      exact norm_ (by simp only [putAll, Act.put, List.setIfInBounds_toArray, List.set_cons_zero, List.set_cons_succ]) (hCont (.slice B2 l0_2.length d2, .slice B3 l0_3.length d3, .slice B4 l1_2.length d4, .slice B5 l1_3.length d5, vp, vq, b6) _ ⟨HB5.out, HP.out, HQ.out, BK6.out, GB6.out⟩)
  rintro ⟨z2, z3, z4, z5, vE, vF, bh⟩ w8 ⟨hb8, hP8, hQ8, h68, hG8⟩
  have hHeld := hS w8 hb8
  refine norm_ (a' := ?_) ?_ ?_
  rotate_left
  · simp only [putAll, Act.put, List.setIfInBounds_toArray, List.set_cons_zero, List.set_cons_succ]
    rfl
  obtain ⟨A12, e12, rfl⟩ := Kd.R_slice hP8
  obtain ⟨A13, e13, rfl⟩ := Kd.R_slice hQ8
  have hs0 : w8.cell? ⟨bh, 0, none⟩ = some (.int .i64 0) := (blk_cell h68 0).trans rfl
  have hs1 : w8.cell? ⟨bh, 1, none⟩ = some (.int .i64 0) := (blk_cell h68 1).trans rfl
  have hs2 : w8.cell? ⟨bh, 2, none⟩ = some (.slice none 0 0) := (blk_cell h68 2).trans rfl
  have hs3 : w8.cell? ⟨bh, 3, none⟩ = some (.slice none 0 0) := (blk_cell h68 3).trans rfl
  have hf0 := blk_frozen h68 0
  have hf1 := blk_frozen h68 1
  have hf2 := blk_frozen h68 2
  have hf3 := blk_frozen h68 3
  refine one_ (i := 9) (N := none) #[Tt, Tt, Tt, Tt, Tt, Tt, Tt, Tt, Tt, Tt, Ff] rfl rfl (one_of HT_.out (by kernel_rfl)) (by decide) (fun K hK => ?_)
  refine skip_ (w1 := ?_) (by rfl) rfl ?_ ?_
  rotate_left
  · go_simp
    rfl
  refine hK.out _ _ (hS _ (below_set (below_set (below_set (below_set hb8 hG8) hG8) hG8) hG8)) (fun hHeld => ?_)
  clear hK K
  refine pZ (i := 10) (N := some 16) #[Tt, Tt, Tt, Tt, Tt, Tt, Tt, Tt, Tt, Tt, Tt] ?_
  refine done_ (done_of HT_.out (by kernel_rfl)) ?_
  have hb9 := below_set (j := 3) (v := .slice A13 L3.length e13) (below_set (j := 2) (v := .slice A12 L2.length e12) (below_set (j := 1) (v := .int .i64 R1) (below_set (j := 0) (v := .int .i64 R0) hb8 hG8) hG8) hG8) hG8
  have K6 := blk_put (cs := #[.int .i64 R0, .int .i64 R1, .slice A12 L2.length e12, .slice none 0 0]) (blk_put (cs := #[.int .i64 R0, .int .i64 R1, .slice none 0 0, .slice none 0 0]) (blk_put (cs := #[.int .i64 R0, .int .i64 0, .slice none 0 0, .slice none 0 0]) (blk_put (cs := #[.int .i64 0, .int .i64 0, .slice none 0 0, .slice none 0 0]) h68 0 (.int .i64 R0) rfl) 1 (.int .i64 R1) rfl) 2 (.slice A12 L2.length e12) rfl) 3 (.slice A13 L3.length e13) rfl
  have HP9 := Kd.R_far (Kd.R_far (Kd.R_far (Kd.R_far (p := ⟨bh, 0, none⟩) (Kd.R_types hP8 h68 (by decide)) (fun k hk => hk.2) (.int .i64 R0)) (p := ⟨bh, 1, none⟩) (fun k hk => hk.2) (.int .i64 R1)) (p := ⟨bh, 2, none⟩) (fun k hk => hk.2) (.slice A12 L2.length e12)) (p := ⟨bh, 3, none⟩) (fun k hk => hk.2) (.slice A13 L3.length e13)
  have HQ9 := Kd.R_far (Kd.R_far (Kd.R_far (Kd.R_far (p := ⟨bh, 0, none⟩) (Kd.R_types hQ8 h68 (by decide)) (fun k hk => hk.2) (.int .i64 R0)) (p := ⟨bh, 1, none⟩) (fun k hk => hk.2) (.int .i64 R1)) (p := ⟨bh, 2, none⟩) (fun k hk => hk.2) (.slice A12 L2.length e12)) (p := ⟨bh, 3, none⟩) (fun k hk => hk.2) (.slice A13 L3.length e13)
  generalize hW9 : (((w8.setCell ⟨bh, 0, none⟩ (.int .i64 R0)).setCell ⟨bh, 1, none⟩ (.int .i64 R1)).setCell ⟨bh, 2, none⟩ (.slice A12 L2.length e12)).setCell ⟨bh, 3, none⟩ (.slice A13 L3.length e13) = w13 at hb9 K6 HP9 HQ9 ⊢
  clear hs0 hs1 hs2 hs3 hf0 hf1 hf2 hf3 hb8 hP8 hQ8 h68 hG8 hW9 hHeld HT_ HW_ hS HB5
  have HSZ := Aside0.mk (HB.out.size)
  have n0_ := Aside0.mk (below_step HB.out hb9)
  have n1_ := Aside0.mk (blk_below Q0.out hb9)
  have n2_ := Aside0.mk (blk_below P0.out hb9)
  have n3_ := Aside0.mk (blk_below W0.out hb9)
  have n4_ := Aside0.mk (Kd.R_below V2.out hb9)
  have n5_ := Aside0.mk (Kd.R_below V3.out hb9)
  have n6_ := Aside0.mk (blk_below X0.out hb9)
  have n7_ := Aside0.mk (blk_below X1.out hb9)
  have n8_ := Aside0.mk (blk_below G0.out hb9)
  have n9_ := Aside0.mk (Kd.R_below V7.out hb9)
  have n10_ := Aside0.mk (Kd.R_below V8.out hb9)
  clear HB Q0 P0 W0 V2 V3 X0 X1 G0 V7 V8
  have HB := n0_
  have Q0 := n1_
  have P0 := n2_
  have W0 := n3_
  have V2 := n4_
  have V3 := n5_
  have X0 := n6_
  have X1 := n7_
  have G0 := n8_
  have V7 := n9_
  have V8 := n10_
  clear n0_ n1_ n2_ n3_ n4_ n5_ n6_ n7_ n8_ n9_ n10_
  have H0 := Aside0.mk K6
  have V12 : Aside0 (Kd.R (Kd.int .i64) 3 w13 w.heap.size (fun k => k < w13.heap.size) (.slice A12 L2.length e12) L2) := ⟨Kd.R_lower (Kd.R_mono (Kd.R_bound HP9) (fun k hk => hk.2.2.1)) HSZ.out⟩
  have V13 : Aside0 (Kd.R (Kd.int .i64) 3 w13 w.heap.size (fun k => k < w13.heap.size) (.slice A13 L3.length e13) L3) := ⟨Kd.R_lower (Kd.R_mono (Kd.R_bound HQ9) (fun k hk => hk.2.2.1)) HSZ.out⟩
  clear K6 HP9 HQ9 hb9 HSZ
  have q0 : w13.cell? ⟨w.heap.size, 0, none⟩ = some (.int .i64 a0_0) := (blk_cell Q0.out 0).trans rfl
  have q1 : w13.cell? ⟨w.heap.size, 1, none⟩ = some (.int .i64 a0_1) := (blk_cell Q0.out 1).trans rfl
  have q2 : w13.cell? ⟨w.heap.size, 2, none⟩ = some (.slice A0_2 l0_2.length c0_2) := (blk_cell Q0.out 2).trans rfl
  have q3 : w13.cell? ⟨w.heap.size, 3, none⟩ = some (.slice A0_3 l0_3.length c0_3) := (blk_cell Q0.out 3).trans rfl
  have p0 : w13.cell? ⟨w.heap.size + 1, 0, none⟩ = some (.int .i64 a1_0) := (blk_cell P0.out 0).trans rfl
  have p1 : w13.cell? ⟨w.heap.size + 1, 1, none⟩ = some (.int .i64 a1_1) := (blk_cell P0.out 1).trans rfl
  have p2 : w13.cell? ⟨w.heap.size + 1, 2, none⟩ = some (.slice A1_2 l1_2.length c1_2) := (blk_cell P0.out 2).trans rfl
  have p3 : w13.cell? ⟨w.heap.size + 1, 3, none⟩ = some (.slice A1_3 l1_3.length c1_3) := (blk_cell P0.out 3).trans rfl
  have pp0 : w13.cell? ⟨bw, 0, none⟩ = some (.int .i64 R0) := (blk_cell W0.out 0).trans rfl
  have pp1 : w13.cell? ⟨bw, 1, none⟩ = some (.int .i64 R1) := (blk_cell W0.out 1).trans rfl
  have pp2 : w13.cell? ⟨bw, 2, none⟩ = some (.slice E2 L2.length f2) := (blk_cell W0.out 2).trans rfl
  have pp3 : w13.cell? ⟨bw, 3, none⟩ = some (.slice E3 L3.length f3) := (blk_cell W0.out 3).trans rfl
  have x0 : w13.cell? ⟨w4.heap.size, 0, none⟩ = some (.int .i64 a0_0) := (blk_cell X0.out 0).trans rfl
  have x1 : w13.cell? ⟨w4.heap.size, 1, none⟩ = some (.int .i64 a0_1) := (blk_cell X0.out 1).trans rfl
  have x2 : w13.cell? ⟨w4.heap.size, 2, none⟩ = some (.slice (some ⟨g2, 0, none⟩) l0_2.length cc2) := (blk_cell X0.out 2).trans rfl
  have x3 : w13.cell? ⟨w4.heap.size, 3, none⟩ = some (.slice (some ⟨g3, 0, none⟩) l0_3.length cc3) := (blk_cell X0.out 3).trans rfl
  have y0 : w13.cell? ⟨w5.heap.size, 0, none⟩ = some (.int .i64 a1_0) := (blk_cell X1.out 0).trans rfl
  have y1 : w13.cell? ⟨w5.heap.size, 1, none⟩ = some (.int .i64 a1_1) := (blk_cell X1.out 1).trans rfl
  have y2 : w13.cell? ⟨w5.heap.size, 2, none⟩ = some (.slice (some ⟨g4, 0, none⟩) l1_2.length cc4) := (blk_cell X1.out 2).trans rfl
  have y3 : w13.cell? ⟨w5.heap.size, 3, none⟩ = some (.slice (some ⟨g5, 0, none⟩) l1_3.length cc5) := (blk_cell X1.out 3).trans rfl
  have gg0 : w13.cell? ⟨w6.heap.size, 0, none⟩ = some (.int .i64 R0) := (blk_cell G0.out 0).trans rfl
  have gg1 : w13.cell? ⟨w6.heap.size, 1, none⟩ = some (.int .i64 R1) := (blk_cell G0.out 1).trans rfl
  have gg2 : w13.cell? ⟨w6.heap.size, 2, none⟩ = some (.slice A7 L2.length e7) := (blk_cell G0.out 2).trans rfl
  have gg3 : w13.cell? ⟨w6.heap.size, 3, none⟩ = some (.slice A8 L3.length e8) := (blk_cell G0.out 3).trans rfl
  have h0 : w13.cell? ⟨bh, 0, none⟩ = some (.int .i64 R0) := (blk_cell H0.out 0).trans rfl
  have h1 : w13.cell? ⟨bh, 1, none⟩ = some (.int .i64 R1) := (blk_cell H0.out 1).trans rfl
  have h2 : w13.cell? ⟨bh, 2, none⟩ = some (.slice A12 L2.length e12) := (blk_cell H0.out 2).trans rfl
  have h3 : w13.cell? ⟨bh, 3, none⟩ = some (.slice A13 L3.length e13) := (blk_cell H0.out 3).trans rfl
  go_wp2_with (first
    | (go_at_call 14; have _t := tok11; (with_reducible refine (laws_eqFigure.calls KK R0 R1 _ _ L2 _ _ L3 R0 R1 _ _ L2 _ _ L3 true _ (Kd.R_reads' V12.out).2.2 (Kd.R_reads' V12.out).2.1 (Kd.R_reads' V13.out).2.2 (Kd.R_reads' V13.out).2.1 (Kd.R_reads' V2.out).2.2 (Kd.R_reads' V2.out).2.1 (Kd.R_reads' V3.out).2.2 (Kd.R_reads' V3.out).2.1 hE.out).mono ?_); rintro e w14 ⟨rfl, hb⟩; have n0_ := Aside0.mk (below_step HB.out hb);
       have n1_ := Aside0.mk (blk_keep Q0.out hb);
       have n2_ := Aside0.mk (blk_keep P0.out hb);
       have n3_ := Aside0.mk (blk_keep W0.out hb);
       have n4_ := Aside0.mk (Kd.R_below V2.out hb);
       have n5_ := Aside0.mk (Kd.R_below V3.out hb);
       have n6_ := Aside0.mk (blk_keep X0.out hb);
       have n7_ := Aside0.mk (blk_keep X1.out hb);
       have n8_ := Aside0.mk (blk_keep G0.out hb);
       have n9_ := Aside0.mk (Kd.R_below V7.out hb);
       have n10_ := Aside0.mk (Kd.R_below V8.out hb);
       have n11_ := Aside0.mk (blk_keep H0.out hb);
       have n12_ := Aside0.mk (Kd.R_below V12.out hb);
       have n13_ := Aside0.mk (Kd.R_below V13.out hb);
       clear q0 q1 q2 q3 p0 p1 p2 p3 pp0 pp1 pp2 pp3 x0 x1 x2 x3 y0 y1 y2 y3 gg0 gg1 gg2 gg3 h0 h1 h2 h3 HB Q0 P0 W0 V2 V3 X0 X1 G0 V7 V8 H0 V12 V13;
       have HB := n0_;
       have Q0 := n1_;
       have P0 := n2_;
       have W0 := n3_;
       have V2 := n4_;
       have V3 := n5_;
       have X0 := n6_;
       have X1 := n7_;
       have G0 := n8_;
       have V7 := n9_;
       have V8 := n10_;
       have H0 := n11_;
       have V12 := n12_;
       have V13 := n13_;
       clear n0_ n1_ n2_ n3_ n4_ n5_ n6_ n7_ n8_ n9_ n10_ n11_ n12_ n13_;
       have q0 : w14.cell? ⟨w.heap.size, 0, none⟩ = some (.int .i64 a0_0) := (blk_cell Q0.out 0).trans rfl;
       have q1 : w14.cell? ⟨w.heap.size, 1, none⟩ = some (.int .i64 a0_1) := (blk_cell Q0.out 1).trans rfl;
       have q2 : w14.cell? ⟨w.heap.size, 2, none⟩ = some (.slice A0_2 l0_2.length c0_2) := (blk_cell Q0.out 2).trans rfl;
       have q3 : w14.cell? ⟨w.heap.size, 3, none⟩ = some (.slice A0_3 l0_3.length c0_3) := (blk_cell Q0.out 3).trans rfl;
       have p0 : w14.cell? ⟨w.heap.size + 1, 0, none⟩ = some (.int .i64 a1_0) := (blk_cell P0.out 0).trans rfl;
       have p1 : w14.cell? ⟨w.heap.size + 1, 1, none⟩ = some (.int .i64 a1_1) := (blk_cell P0.out 1).trans rfl;
       have p2 : w14.cell? ⟨w.heap.size + 1, 2, none⟩ = some (.slice A1_2 l1_2.length c1_2) := (blk_cell P0.out 2).trans rfl;
       have p3 : w14.cell? ⟨w.heap.size + 1, 3, none⟩ = some (.slice A1_3 l1_3.length c1_3) := (blk_cell P0.out 3).trans rfl;
       have pp0 : w14.cell? ⟨bw, 0, none⟩ = some (.int .i64 R0) := (blk_cell W0.out 0).trans rfl;
       have pp1 : w14.cell? ⟨bw, 1, none⟩ = some (.int .i64 R1) := (blk_cell W0.out 1).trans rfl;
       have pp2 : w14.cell? ⟨bw, 2, none⟩ = some (.slice E2 L2.length f2) := (blk_cell W0.out 2).trans rfl;
       have pp3 : w14.cell? ⟨bw, 3, none⟩ = some (.slice E3 L3.length f3) := (blk_cell W0.out 3).trans rfl;
       have x0 : w14.cell? ⟨w4.heap.size, 0, none⟩ = some (.int .i64 a0_0) := (blk_cell X0.out 0).trans rfl;
       have x1 : w14.cell? ⟨w4.heap.size, 1, none⟩ = some (.int .i64 a0_1) := (blk_cell X0.out 1).trans rfl;
       have x2 : w14.cell? ⟨w4.heap.size, 2, none⟩ = some (.slice (some ⟨g2, 0, none⟩) l0_2.length cc2) := (blk_cell X0.out 2).trans rfl;
       have x3 : w14.cell? ⟨w4.heap.size, 3, none⟩ = some (.slice (some ⟨g3, 0, none⟩) l0_3.length cc3) := (blk_cell X0.out 3).trans rfl;
       have y0 : w14.cell? ⟨w5.heap.size, 0, none⟩ = some (.int .i64 a1_0) := (blk_cell X1.out 0).trans rfl;
       have y1 : w14.cell? ⟨w5.heap.size, 1, none⟩ = some (.int .i64 a1_1) := (blk_cell X1.out 1).trans rfl;
       have y2 : w14.cell? ⟨w5.heap.size, 2, none⟩ = some (.slice (some ⟨g4, 0, none⟩) l1_2.length cc4) := (blk_cell X1.out 2).trans rfl;
       have y3 : w14.cell? ⟨w5.heap.size, 3, none⟩ = some (.slice (some ⟨g5, 0, none⟩) l1_3.length cc5) := (blk_cell X1.out 3).trans rfl;
       have gg0 : w14.cell? ⟨w6.heap.size, 0, none⟩ = some (.int .i64 R0) := (blk_cell G0.out 0).trans rfl;
       have gg1 : w14.cell? ⟨w6.heap.size, 1, none⟩ = some (.int .i64 R1) := (blk_cell G0.out 1).trans rfl;
       have gg2 : w14.cell? ⟨w6.heap.size, 2, none⟩ = some (.slice A7 L2.length e7) := (blk_cell G0.out 2).trans rfl;
       have gg3 : w14.cell? ⟨w6.heap.size, 3, none⟩ = some (.slice A8 L3.length e8) := (blk_cell G0.out 3).trans rfl;
       have h0 : w14.cell? ⟨bh, 0, none⟩ = some (.int .i64 R0) := (blk_cell H0.out 0).trans rfl;
       have h1 : w14.cell? ⟨bh, 1, none⟩ = some (.int .i64 R1) := (blk_cell H0.out 1).trans rfl;
       have h2 : w14.cell? ⟨bh, 2, none⟩ = some (.slice A12 L2.length e12) := (blk_cell H0.out 2).trans rfl;
       have h3 : w14.cell? ⟨bh, 3, none⟩ = some (.slice A13 L3.length e13) := (blk_cell H0.out 3).trans rfl;
       clear hb; clear _t tok11; have tok12 : True := trivial)
    | (go_at_call 17; have _t := tok12; (with_reducible refine (heldFigure_marks KK R0 R1 L2.length L3.length mm A7 e7 A8 e8 _ _ _ _ V7.out V8.out hHC.out).mono ?_); rintro e w15 ⟨rfl, hb⟩; have HBe := Aside0.mk (below_step HB.out hb);
       clear hb; clear _t tok12; have tok13 : True := trivial))
  go_ret
  exact ⟨by first | rfl | simp, HBe.out⟩



def impl_Figure_grid.f (a0_0 : Int) (a0_1 : Int) (l0_2 : List Int) (l0_3 : List Int) : Option (Int × Int) := some (a0_0, a0_1)
set_option maxHeartbeats 8000000 in
set_option maxRecDepth 100000 in
theorem impl_Figure_grid.calls (a0_0 : Int) (a0_1 : Int) (A0_2 : Option Addr) (c0_2 : Nat) (l0_2 : List Int) (A0_3 : Option Addr) (c0_3 : Nat) (l0_3 : List Int) (r1 : Int) (r2 : Int) (w : World) (hr0_2 : Kd.C (Kd.int .i64) w A0_2 l0_2.length l0_2) (hc0_2 : l0_2.length ≤ c0_2) (hr0_3 : Kd.C (Kd.int .i64) w A0_3 l0_3.length l0_3) (hc0_3 : l0_3.length ≤ c0_3) (h : impl_Figure_grid.f a0_0 a0_1 l0_2 l0_3 = some (r1, r2)) :
    Calls Tryd.prog 39 #[.agg #[.int .i64 a0_0, .int .i64 a0_1, .slice A0_2 l0_2.length c0_2, .slice A0_3 l0_3.length c0_3]] w fun e w' => e = .returned (.agg #[.int .i64 r1, .int .i64 r2]) ∧ Below w.heap.size w w' := by
  have hu26 := Tryd.underlying26
  have hu49 := Tryd.underlying49
  have HR0_2 := Aside0.mk hr0_2
  have HC0_2 := Aside0.mk hc0_2
  clear hr0_2 hc0_2
  have HR0_3 := Aside0.mk hr0_3
  have HC0_3 := Aside0.mk hc0_3
  clear hr0_3 hc0_3
  have HB := Aside0.mk (Below.refl w.heap.size w)
  have H : (some (a0_0, a0_1)) = some (r1, r2) := h
  clear h
  simp only [Option.some.injEq, Prod.mk.injEq] at H
  obtain ⟨rfl, rfl⟩ := H
  go_enter Tryd.func39, Tryd.ntmps39
  go_wp2_with (first | ((with_reducible refine gate_dst (N := 1) rfl ?_); refine boxE_ (N := 1) (cs := #[.int .i64 a0_0, .int .i64 a0_1, .slice A0_2 l0_2.length c0_2, .slice A0_3 l0_3.length c0_3]) (t := 26) ?_; intro gb209 hg w2 hbox hb; have n0_ := Aside0.mk (below_step (bl0_ HB.out) hb); have n1_ := Aside0.mk (hbox); have n2_ := Aside0.mk ((bs0_ hg HB.out : w.heap.size ≤ gb209)); have n3_ := Aside0.mk ((bs0_ hg HB.out : w.heap.size ≤ gb209)); clear HB; have HB := n0_; have BK209 := n1_; have GW209 := n2_; have GE209 := n3_; clear n0_ n1_ n2_ n3_; clear hb hbox hg) | ((with_reducible refine gate_dst (N := 2) rfl ?_); refine boxE_ (N := 2) (cs := #[.int .i64 0, .int .i64 0]) (t := 49) ?_; intro gb210 hg w3 hbox hb; have n0_ := Aside0.mk (bb_ BK209.out hb); have n1_ := Aside0.mk (below_step (bl1_ HB.out GE209.out) hb); have n2_ := Aside0.mk (hbox); have n3_ := Aside0.mk ((bs1_ hg HB.out GE209.out : w.heap.size ≤ gb210)); have n4_ := Aside0.mk ((bs1_ hg HB.out GE209.out : w.heap.size ≤ gb210)); have n5_ := Aside0.mk ((nl_ hg BK209.out : gb209 ≠ gb210)); have n6_ := Aside0.mk ((ng_ hg BK209.out : gb210 ≠ gb209)); clear BK209; clear HB; have BK209 := n0_; have HB := n1_; have BK210 := n2_; have GW210 := n3_; have GE210 := n4_; have NB209_210 := n5_; have NB210_209 := n6_; clear n0_ n1_ n2_ n3_ n4_ n5_ n6_; clear hb hbox hg; have hnb4 := NB209_210.out; have hnc4 := NB210_209.out; have hcz5_0 : w3.cell? ⟨gb209, 0, none⟩ = some (.int .i64 a0_0) := (blk_cell BK209.out 0).trans rfl; have hcz5_1 : w3.cell? ⟨gb209, 1, none⟩ = some (.int .i64 a0_1) := (blk_cell BK209.out 1).trans rfl; have hcz5_2 : w3.cell? ⟨gb209, 2, none⟩ = some (.slice A0_2 l0_2.length c0_2) := (blk_cell BK209.out 2).trans rfl; have hcz5_3 : w3.cell? ⟨gb209, 3, none⟩ = some (.slice A0_3 l0_3.length c0_3) := (blk_cell BK209.out 3).trans rfl; have hfz5_0 := blk_frozen BK209.out 0; have hfz5_1 := blk_frozen BK209.out 1; have hfz5_2 := blk_frozen BK209.out 2; have hfz5_3 := blk_frozen BK209.out 3; have hcz6_0 : w3.cell? ⟨gb210, 0, none⟩ = some (.int .i64 0) := (blk_cell BK210.out 0).trans rfl; have hcz6_1 : w3.cell? ⟨gb210, 1, none⟩ = some (.int .i64 0) := (blk_cell BK210.out 1).trans rfl; have hfz6_0 := blk_frozen BK210.out 0; have hfz6_1 := blk_frozen BK210.out 1))
  refine bodyPost_ret (results_cell_row rfl _ _ gb210 49 #[.int .i64 a0_0, .int .i64 a0_1] (0, 0) _ rfl (by (with_reducible repeat (first | refine blk_drewN ?_ _ | refine blk_drew ?_ | refine blk_alloc ?_ _)); refine blk_put (cs := #[.int .i64 a0_0, .int .i64 0]) ?_ 1 _ rfl; (with_reducible repeat (first | refine blk_drewN ?_ _ | refine blk_drew ?_ | refine blk_alloc ?_ _)); refine blk_put (cs := #[.int .i64 0, .int .i64 0]) ?_ 0 _ rfl; (with_reducible repeat (first | refine blk_drewN ?_ _ | refine blk_drew ?_ | refine blk_alloc ?_ _)); exact BK210.out) Tryd.underlying49 rfl (by kernel_rfl)) rfl ?_
  exact ⟨er_, bl2_ HB.out GE209.out GE210.out⟩


theorem eqA49 (d : Nat) (w : World) (x0 y0 : Int) (x1 y1 : Int) :
    (Op.equalIn (d + 2) 49 (.agg #[.int .i64 x0, .int .i64 x1]) (.agg #[.int .i64 y0, .int .i64 y1])).run Tryd.prog w = .ok (x0 == y0 && (x1 == y1)) w := by
  refine eqA_of Tryd.underlying49 (by kernel_rfl) ?_
  refine eqf_cons (by rfl) (by go_simp; rfl) (by go_simp; rfl) (by go_simp) ?_
  exact eqf_last (by rfl) (by go_simp; rfl) (by go_simp; rfl) (by go_simp)

def impl_grid_levels.f (a0_0 : Int) (a0_1 : Int) : Option (Int) := some (wrap64 (a0_0 * (wrap64 (a0_1 + 1))))
set_option maxHeartbeats 8000000 in
set_option maxRecDepth 100000 in
theorem impl_grid_levels.calls (a0_0 : Int) (a0_1 : Int) (r : Int) (w : World) (h : impl_grid_levels.f a0_0 a0_1 = some r) :
    Calls Tryd.prog 70 #[.agg #[.int .i64 a0_0, .int .i64 a0_1]] w fun e w' => e = .returned (.int .i64 r) ∧ Below w.heap.size w w' := by
  have hu49 := Tryd.underlying49
  have HB := Aside0.mk (Below.refl w.heap.size w)
  have H : (some (wrap64 (a0_0 * (wrap64 (a0_1 + 1))))) = some r := h
  clear h
  obtain rfl := Option.some.inj H
  go_enter Tryd.func70, Tryd.ntmps70
  go_wp2_with (first | ((with_reducible refine gate_dst (N := 1) rfl ?_); refine boxE_ (N := 1) (cs := #[.int .i64 a0_0, .int .i64 a0_1]) (t := 49) ?_; intro gb211 hg w2 hbox hb; have n0_ := Aside0.mk (below_step (bl0_ HB.out) hb); have n1_ := Aside0.mk (hbox); have n2_ := Aside0.mk ((bs0_ hg HB.out : w.heap.size ≤ gb211)); have n3_ := Aside0.mk ((bs0_ hg HB.out : w.heap.size ≤ gb211)); clear HB; have HB := n0_; have BK211 := n1_; have GW211 := n2_; have GE211 := n3_; clear n0_ n1_ n2_ n3_; clear hb hbox hg; have hcz3_0 : w2.cell? ⟨gb211, 0, none⟩ = some (.int .i64 a0_0) := (blk_cell BK211.out 0).trans rfl; have hcz3_1 : w2.cell? ⟨gb211, 1, none⟩ = some (.int .i64 a0_1) := (blk_cell BK211.out 1).trans rfl; have hfz3_0 := blk_frozen BK211.out 0; have hfz3_1 := blk_frozen BK211.out 1))
  go_ret
  exact ⟨er_, bl1_ HB.out GE211.out⟩


def impl_within.f (a0 : Int) (a1 : Int) (a2 : Int) : Option (Bool) := if a1 ≤ a0 then (some (decide (a0 ≤ a2))) else (some false)
set_option maxHeartbeats 8000000 in
set_option maxRecDepth 100000 in
theorem impl_within.calls (a0 : Int) (a1 : Int) (a2 : Int) (r : Bool) (w : World) (h : impl_within.f a0 a1 a2 = some r) :
    Calls Tryd.prog 79 #[.int .i64 a0, .int .i64 a1, .int .i64 a2] w fun e w' => e = .returned (.bool r) ∧ Drawn0 w w' := by
  have H : (if a1 ≤ a0 then (some (decide (a0 ≤ a2))) else (some false)) = some r := h
  clear h
  by_cases c4 : a1 ≤ a0
  · rw [if_pos c4] at H
    have c4b0 : decide (a1 ≤ a0) = true := decide_eq_true c4
    clear c4
    obtain rfl := Option.some.inj H
    go_enter Tryd.func79, Tryd.ntmps79
    go_wp2
    go_ret
    exact ⟨by first | rfl | (simp; done) | (simp [*]; done), by repeat (first | exact Drawn0.refl _ | apply Drawn0.step)⟩
  · rw [if_neg c4] at H
    have c4b0 : decide (a1 ≤ a0) = false := decide_eq_false c4
    clear c4
    obtain rfl := Option.some.inj H
    go_enter Tryd.func79, Tryd.ntmps79
    go_wp2
    go_ret
    exact ⟨by first | rfl | (simp; done) | (simp [*]; done), by repeat (first | exact Drawn0.refl _ | apply Drawn0.step)⟩


def impl_isGrid.f (a0 : Int) (a1 : Int) : Option (Bool) := (impl_within.f a0 1 4).bind fun t212 => (if t212 = true then ((impl_within.f a1 1 4).bind fun t213 => (some t213)) else (some false))
set_option maxHeartbeats 8000000 in
set_option maxRecDepth 100000 in
theorem impl_isGrid.calls (a0 : Int) (a1 : Int) (r : Bool) (w : World) (h : impl_isGrid.f a0 a1 = some r) :
    Calls Tryd.prog 75 #[.int .i64 a0, .int .i64 a1] w fun e w' => e = .returned (.bool r) ∧ Drawn0 w w' := by
  have H : ((impl_within.f a0 1 4).bind fun t212 => (if t212 = true then ((impl_within.f a1 1 4).bind fun t213 => (some t213)) else (some false))) = some r := h
  clear h
  replace H := Option.bind_eq_some_iff.mp H
  obtain ⟨t212, A30, H⟩ := H
  replace H : (if t212 = true then ((impl_within.f a1 1 4).bind fun t213 => (some t213)) else (some false)) = some r := H
  have A3 := Aside0.mk A30
  clear A30
  by_cases c4 : t212 = true
  · subst c4
    have H1 : ((impl_within.f a1 1 4).bind fun t213 => (some t213)) = some r := by rw [if_pos rfl] at H; exact H
    clear H
    have H := H1
    clear H1
    replace H := Option.bind_eq_some_iff.mp H
    obtain ⟨t213, A50, H⟩ := H
    replace H : (some t213) = some r := H
    have A5 := Aside0.mk A50
    clear A50
    obtain rfl := Option.some.inj H
    go_enter Tryd.func75, Tryd.ntmps75
    go_wp2_with (first | ((with_reducible refine gate_callee (f := 79) rfl ?_); refine goesL_ (some 6) rfl rfl Tryd.func79 (by kernel_rfl) rfl #[.int .i64 a0, .int .i64 1, .int .i64 4] rfl ob_ ?_; (with_reducible refine (impl_within.calls a0 1 4 true _ A3.out).mono ?_); rintro e w' ⟨rfl, ⟨nd, rfl⟩⟩; refine ⟨_, rfl, ?_⟩) | (go_at_call 79; (with_reducible refine (impl_within.calls a1 1 4 t213 _ A5.out).mono ?_); rintro e w' ⟨rfl, ⟨nd, rfl⟩⟩))
    go_ret
    exact ⟨by first | rfl | (simp; done) | (simp [*]; done), by repeat (first | exact Drawn0.refl _ | apply Drawn0.step)⟩
  · replace c4 := Bool.eq_false_iff.mpr c4
    subst c4
    have H1 : (some false) = some r := by rw [if_neg (show ¬ (false = true) by decide)] at H; exact H
    clear H
    have H := H1
    clear H1
    obtain rfl := Option.some.inj H
    go_enter Tryd.func75, Tryd.ntmps75
    go_wp2_with (first | ((with_reducible refine gate_callee (f := 79) rfl ?_); refine goesL_ (some 6) rfl rfl Tryd.func79 (by kernel_rfl) rfl #[.int .i64 a0, .int .i64 1, .int .i64 4] rfl ob_ ?_; (with_reducible refine (impl_within.calls a0 1 4 false _ A3.out).mono ?_); rintro e w' ⟨rfl, ⟨nd, rfl⟩⟩; refine ⟨_, rfl, ?_⟩))
    go_ret
    exact ⟨by first | rfl | (simp; done) | (simp [*]; done), by repeat (first | exact Drawn0.refl _ | apply Drawn0.step)⟩


def impl_isRising.l0 : Nat → List Int → Int → Option (Bool)
  | 0, _, _ => none
  | k + 1, x0, x3 => if x3 < (x0.length : Int) then (if 0 ≤ x3 then (if 0 ≤ (wrap64 (x3 - 1)) then (if (wrap64 (x3 - 1)) < (x0.length : Int) then (if (rd x0 x3) ≤ (rd x0 (wrap64 (x3 - 1))) then (some false) else (impl_isRising.l0 k x0 (wrap64 (x3 + 1)))) else (none)) else (none)) else (none)) else (some true)
def impl_isRising.f (k : Nat) (l0 : List Int) : Option (Bool) := impl_isRising.l0 k l0 1
theorem impl_isRising.mono_l : ∀ k, (∀ y0 y1, LeO (impl_isRising.l0 k y0 y1) (impl_isRising.l0 (k + 1) y0 y1))
  | 0 => fun _ _ r h => by simp [impl_isRising.l0] at h
  | k + 1 => by
    have ih0 := impl_isRising.mono_l k
    · intro y0 y1
      unfold impl_isRising.l0
      repeat' first
      | (with_reducible exact ih0 _ _)
      | (with_reducible exact LeO.refl _)
      | (with_reducible exact LeO.none _)
      | (with_reducible refine LeO.ite ?_ ?_)
      | (with_reducible refine LeO.bind ?_ (fun _ => ?_))
      | exact ih0 _ _
      | exact LeO.none _
      | refine LeO.ite ?_ ?_
      | refine LeO.bind ?_ (fun _ => ?_)
theorem impl_isRising.mono : ∀ a0 k, LeO (impl_isRising.f k a0) (impl_isRising.f (k + 1) a0) := by
  intro a0 k
  have ih0 := impl_isRising.mono_l k
  unfold impl_isRising.f
  repeat' first
      | (with_reducible exact ih0 _ _)
      | (with_reducible exact LeO.refl _)
      | (with_reducible exact LeO.none _)
      | (with_reducible refine LeO.ite ?_ ?_)
      | (with_reducible refine LeO.bind ?_ (fun _ => ?_))
      | exact ih0 _ _
      | exact LeO.none _
      | refine LeO.ite ?_ ?_
      | refine LeO.bind ?_ (fun _ => ?_)
set_option maxHeartbeats 8000000 in
set_option maxRecDepth 100000 in
theorem impl_isRising.calls (k : Nat) (A0 : Option Addr) (c0 : Nat) (l0 : List Int) (r : Bool) (w : World) (hr0 : Kd.C (Kd.int .i64) w A0 l0.length l0) (hc0 : l0.length ≤ c0) (h : impl_isRising.f k l0 = some r) :
    Calls Tryd.prog 76 #[.slice A0 l0.length c0] w fun e w' => e = .returned (.bool r) ∧ Drawn0 w w' := by
  have HR0 := Aside0.mk hr0
  have HC0 := Aside0.mk hc0
  clear hr0 hc0
  have H : (impl_isRising.l0 k l0 1) = some r := h
  clear h
  have H' := Aside0.mk H
  clear H
  go_enter Tryd.func76, Tryd.ntmps76
  go_wp2
  repeat (go_quiet (fail); try go_wp2)
  go_loopg [3] k (fun kq v3 w' => ∃ (x3_1 : Int), v3 = .int .i64 x3_1 ∧ Aside0 (impl_isRising.l0 kq l0 x3_1 = some r) ∧ Aside0 (kq ≤ k) ∧ Drawn0 w w')
  case atStart => exact ⟨(1), rs_, H', ⟨Nat.le_refl _⟩, by repeat (first | exact Drawn0.refl _ | apply Drawn0.step)⟩
  case round =>
    clear H'
    obtain ⟨x3_1, rfl, HA, HK1, ⟨m1, rfl⟩⟩ := hrel
    cases gk with
    | zero => exact absurd HA.out (by simp [impl_isRising.l0])
    | succ k1 =>
      have H := HA.out
      clear HA
      simp only [impl_isRising.l0] at H
      by_cases c2 : x3_1 < (l0.length : Int)
      · rw [if_pos c2] at H
        have c2b0 : decide (x3_1 < (l0.length : Int)) = true := decide_eq_true c2
        clear c2
        by_cases c3 : 0 ≤ x3_1
        · rw [if_pos c3] at H
          have c3b0 : decide (0 ≤ x3_1) = true := decide_eq_true c3
          clear c3
          obtain ⟨ji4, hji4⟩ : ∃ j_ : Int, (wrap64 (x3_1 - 1)) = j_ := ⟨_, rfl⟩
          replace H : (if 0 ≤ (ji4) then (if (ji4) < (l0.length : Int) then (if (rd l0 x3_1) ≤ (rd l0 (ji4)) then (some false) else (impl_isRising.l0 k1 l0 (wrap64 (x3_1 + 1)))) else (none)) else (none)) = some r := by first | (rw [hji4] at H; exact H) | (simp only [hji4] at H ⊢; exact H)
          have hji4w : (IntKind.i64.wrap (x3_1 - 1)) = ji4 := (i64_w _).trans hji4
          by_cases c5 : 0 ≤ (ji4)
          · rw [if_pos c5] at H
            have c5b0 : decide (0 ≤ (ji4)) = true := decide_eq_true c5
            clear c5
            by_cases c6 : (ji4) < (l0.length : Int)
            · rw [if_pos c6] at H
              have c6b0 : decide ((ji4) < (l0.length : Int)) = true := decide_eq_true c6
              clear c6
              by_cases c7 : (rd l0 x3_1) ≤ (rd l0 (ji4))
              · rw [if_pos c7] at H
                have c7b0 : decide ((rd l0 x3_1) ≤ (rd l0 (ji4))) = true := decide_eq_true c7
                clear c7
                obtain rfl := Option.some.inj H
                have p214 : 0 ≤ (x3_1 : Int) := of_decide_eq_true as_
                have q214 : x3_1 < (l0.length : Int) := of_decide_eq_true as_
                obtain ⟨ad214, e214, hx214_0⟩ := Kd.at_int HR0.out x3_1 p214 q214
                cases e214
                replace p214 := eq_true p214
                replace q214 := eq_true q214
                have p215 : 0 ≤ ((ji4) : Int) := of_decide_eq_true as_
                have q215 : (ji4) < (l0.length : Int) := of_decide_eq_true as_
                obtain ⟨ad215, e215, hx215_0⟩ := Kd.at_int HR0.out (ji4) p215 q215
                obtain rfl : ad214 = ad215 := (by injection e215)
                replace p215 := eq_true p215
                replace q215 := eq_true q215
                go_wp2
                repeat (go_quiet (fail); try go_wp2)
                go_ret
                exact ⟨by first | rfl | (simp; done) | (simp only [← hji4] <;> (first | rfl | simp)) | (simp [*]; done), by repeat (first | exact Drawn0.refl _ | apply Drawn0.step)⟩
              · rw [if_neg c7] at H
                have c7b0 : decide ((rd l0 x3_1) ≤ (rd l0 (ji4))) = false := decide_eq_false c7
                clear c7
                have H' := Aside0.mk H
                clear H
                have p214 : 0 ≤ (x3_1 : Int) := of_decide_eq_true as_
                have q214 : x3_1 < (l0.length : Int) := of_decide_eq_true as_
                obtain ⟨ad214, e214, hx214_0⟩ := Kd.at_int HR0.out x3_1 p214 q214
                cases e214
                replace p214 := eq_true p214
                replace q214 := eq_true q214
                have p215 : 0 ≤ ((ji4) : Int) := of_decide_eq_true as_
                have q215 : (ji4) < (l0.length : Int) := of_decide_eq_true as_
                obtain ⟨ad215, e215, hx215_0⟩ := Kd.at_int HR0.out (ji4) p215 q215
                obtain rfl : ad214 = ad215 := (by injection e215)
                replace p215 := eq_true p215
                replace q215 := eq_true q215
                go_wp2
                repeat (go_quiet (fail); try go_wp2)
                go_roundg k1
                case measure => have := HK1.out; omega
                case rel => exact ⟨(wrap64 (x3_1 + 1)), rs_, H', ⟨by have := HK1.out; omega⟩, by repeat (first | exact Drawn0.refl _ | apply Drawn0.step)⟩
            · rw [if_neg c6] at H
              exact absurd H (by simp)
          · rw [if_neg c5] at H
            exact absurd H (by simp)
        · rw [if_neg c3] at H
          exact absurd H (by simp)
      · rw [if_neg c2] at H
        have c2b0 : decide (x3_1 < (l0.length : Int)) = false := decide_eq_false c2
        clear c2
        obtain rfl := Option.some.inj H
        go_wp2
        repeat (go_quiet (fail); try go_wp2)
        go_ret
        exact ⟨by first | rfl | (simp; done) | (simp [*]; done), by repeat (first | exact Drawn0.refl _ | apply Drawn0.step)⟩


set_option maxHeartbeats 2000000 in
theorem containsI_any (g : Nat) (lb : Array Value) (p : Int → Bool) (eg : ∀ args w, (callFunc g args).run Tryd.prog w = .ok (.enter g args) w) (A0 : Option Addr) (c0 : Nat) (l0 : List Int) (w : World) (hr0 : Kd.C (Kd.int .i64) w A0 l0.length l0) (hp : PredI g lb p w) :
    Calls Tryd.prog 99 #[.slice A0 l0.length c0, .func (.func g) #[] lb] w fun e w' => e = .returned (.bool (l0.any p)) ∧ Below w.heap.size w w' := by
  rw [← idxFrom_ge p l0 0]
  have h := indexI_any g lb p eg A0 c0 l0 w hr0 hp
  clear hr0 hp
  go_enter Tryd.func99, Tryd.ntmps99
  go_wp2_with (go_at_call 109; refine h.mono ?_; rintro e w' ⟨rfl, hb'⟩)
  go_ret
  exact ⟨rfl, hb'⟩


def impl_areWithin.f (l0 : List Int) (a1 : Int) (a2 : Int) : Option Bool := some (l0.all fun x => decide (a1 ≤ x) && decide (x ≤ a2))
theorem areWithin_lit (a1 a2 x : Int) (B1 B2 : Nat) (W : World) (h1 : W.cell? ⟨B1, 0, none⟩ = some (.int .i64 a1)) (h2 : W.cell? ⟨B2, 0, none⟩ = some (.int .i64 a2)) :
    Calls Tryd.prog 100 #[.int .i64 x, .pointer (some ⟨B1, 0, none⟩), .pointer (some ⟨B2, 0, none⟩)] W fun e w' => e = .returned (.bool (!(decide (a1 ≤ x) && decide (x ≤ a2)))) ∧ Below W.heap.size W w' := by
  have hw : impl_within.f x a1 a2 = some (decide (a1 ≤ x) && decide (x ≤ a2)) := by
    unfold impl_within.f
    by_cases h : a1 ≤ x <;> simp [h]
  have HW := Aside0.mk hw
  clear hw
  generalize (decide (a1 ≤ x) && decide (x ≤ a2)) = r at HW ⊢
  go_enter Tryd.func100, Tryd.ntmps100
  go_wp2_with (go_at_call 79; refine (impl_within.calls _ _ _ r _ HW.out).mono ?_; rintro e w' ⟨rfl, ⟨nd, rfl⟩⟩)
  go_ret
  exact ⟨by first | rfl | simp, pw_below_drewN (Below.refl _ _) nd⟩
theorem impl_areWithin.calls (A0 : Option Addr) (c0 : Nat) (l0 : List Int) (a1 : Int) (a2 : Int) (r : Bool) (w : World) (hr0 : Kd.C (Kd.int .i64) w A0 l0.length l0) (hc0 : l0.length ≤ c0) (h : impl_areWithin.f l0 a1 a2 = some r) :
    Calls Tryd.prog 77 #[.slice A0 l0.length c0, .int .i64 a1, .int .i64 a2] w fun e w' => e = .returned (.bool r) ∧ Below w.heap.size w w' := by
  obtain rfl := Option.some.inj h
  clear h
  have eg : ∀ args w, (callFunc 100 args).run Tryd.prog w = .ok (.enter 100 args) w := Go.Proofs.enters_of Tryd.func100 (by kernel_rfl) rfl
  have hcon : ∀ W : World, Aside0 (Below w.heap.size w W) → W.cell? ⟨w.heap.size, 0, none⟩ = some (.int .i64 a1) → W.cell? ⟨w.heap.size + 1, 0, none⟩ = some (.int .i64 a2) → w.heap.size + 1 < W.heap.size → Calls Tryd.prog 99 #[.slice A0 l0.length c0, .func (.func 100) #[] #[.pointer (some ⟨w.heap.size, 0, none⟩), .pointer (some ⟨w.heap.size + 1, 0, none⟩)]] W fun e w' => e = .returned (.bool (!(l0.all fun x => decide (a1 ≤ x) && decide (x ≤ a2)))) ∧ Below W.heap.size W w' := fun W hB h1 h2 hs => by
    have hp : PredI 100 #[.pointer (some ⟨w.heap.size, 0, none⟩), .pointer (some ⟨w.heap.size + 1, 0, none⟩)] (fun x => !(decide (a1 ≤ x) && decide (x ≤ a2))) W := fun W2 x hb =>
      areWithin_lit a1 a2 x _ _ W2 ((hb.cell (p := ⟨w.heap.size, 0, none⟩) (by show w.heap.size < _; omega)).trans h1) ((hb.cell (p := ⟨w.heap.size + 1, 0, none⟩) hs).trans h2)
    have := containsI_any _ _ _ eg A0 c0 l0 W (Kd.C_below hr0 hB.out) hp
    rw [show (l0.any fun x => !(decide (a1 ≤ x) && decide (x ≤ a2))) = !(l0.all fun x => decide (a1 ≤ x) && decide (x ≤ a2)) by rw [List.not_all_eq_any_not]] at this
    exact this
  clear hr0 hc0 eg
  have HC := Aside0.mk hcon
  clear hcon
  have hmf : ∀ (fn : Fn) (first cap : Array Value) (w : World), (Instr.makeFunc fn first cap).run Tryd.prog w = .ok (.func fn first cap) w := fun _ _ _ _ => rfl
  generalize (l0.all fun x => decide (a1 ≤ x) && decide (x ≤ a2)) = r at HC
  go_enter Tryd.func77, Tryd.ntmps77
  go_wp2_with (go_at_call 99; refine (HC.out _ ⟨((Below.refl _ _).alloc (Nat.le_refl _) _).alloc (by simp) _⟩ (by simp) (by simp) (by simp)).mono ?_; rintro e w' ⟨rfl, hb'⟩)
  go_ret
  exact ⟨by simp, (((Below.refl _ _).alloc (Nat.le_refl _) _).alloc (by simp) _).trans (hb'.mono (by simp; omega))⟩


def impl_grid_uprights.f (a0_0 : Int) (a0_1 : Int) : Option (Int) := some (wrap64 (a0_1 * (wrap64 (a0_0 + 1))))
set_option maxHeartbeats 8000000 in
set_option maxRecDepth 100000 in
theorem impl_grid_uprights.calls (a0_0 : Int) (a0_1 : Int) (r : Int) (w : World) (h : impl_grid_uprights.f a0_0 a0_1 = some r) :
    Calls Tryd.prog 78 #[.agg #[.int .i64 a0_0, .int .i64 a0_1]] w fun e w' => e = .returned (.int .i64 r) ∧ Below w.heap.size w w' := by
  have hu49 := Tryd.underlying49
  have HB := Aside0.mk (Below.refl w.heap.size w)
  have H : (some (wrap64 (a0_1 * (wrap64 (a0_0 + 1))))) = some r := h
  clear h
  obtain rfl := Option.some.inj H
  go_enter Tryd.func78, Tryd.ntmps78
  go_wp2_with (first | ((with_reducible refine gate_dst (N := 1) rfl ?_); refine boxE_ (N := 1) (cs := #[.int .i64 a0_0, .int .i64 a0_1]) (t := 49) ?_; intro gb216 hg w2 hbox hb; have n0_ := Aside0.mk (below_step (bl0_ HB.out) hb); have n1_ := Aside0.mk (hbox); have n2_ := Aside0.mk ((bs0_ hg HB.out : w.heap.size ≤ gb216)); have n3_ := Aside0.mk ((bs0_ hg HB.out : w.heap.size ≤ gb216)); clear HB; have HB := n0_; have BK216 := n1_; have GW216 := n2_; have GE216 := n3_; clear n0_ n1_ n2_ n3_; clear hb hbox hg; have hcz3_0 : w2.cell? ⟨gb216, 0, none⟩ = some (.int .i64 a0_0) := (blk_cell BK216.out 0).trans rfl; have hcz3_1 : w2.cell? ⟨gb216, 1, none⟩ = some (.int .i64 a0_1) := (blk_cell BK216.out 1).trans rfl; have hfz3_0 := blk_frozen BK216.out 0; have hfz3_1 := blk_frozen BK216.out 1))
  go_ret
  exact ⟨er_, bl1_ HB.out GE216.out⟩


def impl_IsFigure.f (k : Nat) (a0_0 : Int) (a0_1 : Int) (l0_2 : List Int) (l0_3 : List Int) : Option (Bool) := (impl_isGrid.f a0_0 a0_1).bind fun t218 => (if t218 = true then ((impl_isRising.f k l0_2).bind fun t219 => (if t219 = true then ((impl_isRising.f k l0_3).bind fun t220 => (if t220 = true then ((impl_Figure_grid.f a0_0 a0_1 l0_2 l0_3).bind fun bt221 => ((impl_grid_levels.f bt221.1 bt221.2).bind fun t223 => ((impl_areWithin.f l0_2 0 (wrap64 (t223 - 1))).bind fun t224 => (if t224 = true then ((impl_Figure_grid.f a0_0 a0_1 l0_2 l0_3).bind fun bt225 => ((impl_grid_uprights.f bt225.1 bt225.2).bind fun t227 => ((impl_areWithin.f l0_3 0 (wrap64 (t227 - 1))).bind fun t228 => (some t228)))) else (some false))))) else (some false))) else (some false))) else (some false))
theorem impl_IsFigure.mono : ∀ a0 a1 a2 a3 k, LeO (impl_IsFigure.f k a0 a1 a2 a3) (impl_IsFigure.f (k + 1) a0 a1 a2 a3) := by
 intro a0 a1 a2 a3 k
 unfold impl_IsFigure.f
 repeat' first
   | (with_reducible exact impl_isRising.mono _ _)
   | (with_reducible exact LeO.refl _)
   | (with_reducible exact LeO.none _)
   | (with_reducible refine LeO.ite ?_ ?_)
   | (with_reducible refine LeO.bind ?_ (fun _ => ?_))
   | exact impl_isRising.mono _ _
   | exact LeO.none _
   | refine LeO.ite ?_ ?_
   | refine LeO.bind ?_ (fun _ => ?_)
def impl_IsFigure.T1 : Bool × List (List Nat × List Nat) := (true, [([], []), ([0], [0]), ([], []), ([2], [2]), ([1, 3], [1, 3]), ([4, 4], [4]), ([5], [5]), ([6, 5], [5, 6]), ([7, 5, 5], [5, 7]), ([5, 8], [5, 8]), ([9, 8], [9]), ([10], [10]), ([11, 10], [10, 11]), ([12, 10, 10], [10, 12]), ([10, 13], [10, 13]), ([14, 13], [14]), ([15], [15]), ([16, 15], [15, 16]), ([15], [15]), ([18, 15, 15], [15, 18]), ([19, 19, 15], [15, 19]), ([20, 15], [15, 20]), ([17, 21, 20, 15], [15, 17, 21]), ([15, 22], [15, 22]), ([23, 22], [23]), ([24], [24]), ([25, 24], [24, 25]), ([24], [24]), ([27, 24, 24], [24, 27]), ([28, 28, 24], [24, 28]), ([29, 24], [24, 29]), ([26, 30, 29, 24], [24, 26, 30]), ([24, 31], [24, 31]), ([32, 31, 0, 1, 2, 3, 4, 5, 6, 7, 8, 9, 10, 11, 12, 13, 14, 15, 16, 17, 18, 19, 20, 21, 22, 23, 24, 25, 26, 27, 28, 29, 30, 31, 32], [32])])
def impl_IsFigure.B1 : List Nat := [0, 1, 0, 4, 15, 31, 63, 127, 255, 511, 1023, 2047, 4095, 8191, 16383, 32767, 65535, 131071, 65535, 327679, 851967, 1900543, 4194303, 8388607, 16777215, 33554431, 67108863, 33554431, 167772159, 436207615, 973078527, 2147483647, 4294967295, 8589934591]
theorem impl_IsFigure.tab1 : rtab .any (opsOf Tryd.f48 1) = impl_IsFigure.T1 := by kernel_rfl
theorem impl_IsFigure.bits1 : waitsOk impl_IsFigure.T1.2 impl_IsFigure.B1 = true := by kernel_rfl
set_option maxHeartbeats 8000000 in
set_option maxRecDepth 100000 in
theorem impl_IsFigure.calls (k : Nat) (a0_0 : Int) (a0_1 : Int) (A0_2 : Option Addr) (c0_2 : Nat) (l0_2 : List Int) (A0_3 : Option Addr) (c0_3 : Nat) (l0_3 : List Int) (r : Bool) (w : World) (hr0_2 : Kd.C (Kd.int .i64) w A0_2 l0_2.length l0_2) (hc0_2 : l0_2.length ≤ c0_2) (hr0_3 : Kd.C (Kd.int .i64) w A0_3 l0_3.length l0_3) (hc0_3 : l0_3.length ≤ c0_3) (h : impl_IsFigure.f k a0_0 a0_1 l0_2 l0_3 = some r) :
  Calls Tryd.prog 48 #[.agg #[.int .i64 a0_0, .int .i64 a0_1, .slice A0_2 l0_2.length c0_2, .slice A0_3 l0_3.length c0_3]] w fun e w' => e = .returned (.bool r) ∧ Below w.heap.size w w' := by
 have hu26 := Tryd.underlying26
 have HR0_2 := Aside0.mk hr0_2
 have HC0_2 := Aside0.mk hc0_2
 clear hr0_2 hc0_2
 have HR0_3 := Aside0.mk hr0_3
 have HC0_3 := Aside0.mk hc0_3
 clear hr0_3 hc0_3
 have HB := Aside0.mk (Below.refl w.heap.size w)
 have H : ((impl_isGrid.f a0_0 a0_1).bind fun t218 => (if t218 = true then ((impl_isRising.f k l0_2).bind fun t219 => (if t219 = true then ((impl_isRising.f k l0_3).bind fun t220 => (if t220 = true then ((impl_Figure_grid.f a0_0 a0_1 l0_2 l0_3).bind fun bt221 => ((impl_grid_levels.f bt221.1 bt221.2).bind fun t223 => ((impl_areWithin.f l0_2 0 (wrap64 (t223 - 1))).bind fun t224 => (if t224 = true then ((impl_Figure_grid.f a0_0 a0_1 l0_2 l0_3).bind fun bt225 => ((impl_grid_uprights.f bt225.1 bt225.2).bind fun t227 => ((impl_areWithin.f l0_3 0 (wrap64 (t227 - 1))).bind fun t228 => (some t228)))) else (some false))))) else (some false))) else (some false))) else (some false))) = some r := h
 clear h
 replace H := Option.bind_eq_some_iff.mp H
 obtain ⟨t218, A20, H⟩ := H
 replace H : (if t218 = true then ((impl_isRising.f k l0_2).bind fun t219 => (if t219 = true then ((impl_isRising.f k l0_3).bind fun t220 => (if t220 = true then ((impl_Figure_grid.f a0_0 a0_1 l0_2 l0_3).bind fun bt221 => ((impl_grid_levels.f bt221.1 bt221.2).bind fun t223 => ((impl_areWithin.f l0_2 0 (wrap64 (t223 - 1))).bind fun t224 => (if t224 = true then ((impl_Figure_grid.f a0_0 a0_1 l0_2 l0_3).bind fun bt225 => ((impl_grid_uprights.f bt225.1 bt225.2).bind fun t227 => ((impl_areWithin.f l0_3 0 (wrap64 (t227 - 1))).bind fun t228 => (some t228)))) else (some false))))) else (some false))) else (some false))) else (some false)) = some r := H
 have A2 := Aside0.mk A20
 clear A20
 by_cases c3 : t218 = true
 ·subst c3
  have H1 : ((impl_isRising.f k l0_2).bind fun t219 => (if t219 = true then ((impl_isRising.f k l0_3).bind fun t220 => (if t220 = true then ((impl_Figure_grid.f a0_0 a0_1 l0_2 l0_3).bind fun bt221 => ((impl_grid_levels.f bt221.1 bt221.2).bind fun t223 => ((impl_areWithin.f l0_2 0 (wrap64 (t223 - 1))).bind fun t224 => (if t224 = true then ((impl_Figure_grid.f a0_0 a0_1 l0_2 l0_3).bind fun bt225 => ((impl_grid_uprights.f bt225.1 bt225.2).bind fun t227 => ((impl_areWithin.f l0_3 0 (wrap64 (t227 - 1))).bind fun t228 => (some t228)))) else (some false))))) else (some false))) else (some false))) = some r := by rw [if_pos rfl] at H; exact H
  clear H
  have H := H1
  clear H1
  replace H := Option.bind_eq_some_iff.mp H
  obtain ⟨t219, A40, H⟩ := H
  replace H : (if t219 = true then ((impl_isRising.f k l0_3).bind fun t220 => (if t220 = true then ((impl_Figure_grid.f a0_0 a0_1 l0_2 l0_3).bind fun bt221 => ((impl_grid_levels.f bt221.1 bt221.2).bind fun t223 => ((impl_areWithin.f l0_2 0 (wrap64 (t223 - 1))).bind fun t224 => (if t224 = true then ((impl_Figure_grid.f a0_0 a0_1 l0_2 l0_3).bind fun bt225 => ((impl_grid_uprights.f bt225.1 bt225.2).bind fun t227 => ((impl_areWithin.f l0_3 0 (wrap64 (t227 - 1))).bind fun t228 => (some t228)))) else (some false))))) else (some false))) else (some false)) = some r := H
  have A4 := Aside0.mk A40
  clear A40
  by_cases c5 : t219 = true
  ·subst c5
   have H1 : ((impl_isRising.f k l0_3).bind fun t220 => (if t220 = true then ((impl_Figure_grid.f a0_0 a0_1 l0_2 l0_3).bind fun bt221 => ((impl_grid_levels.f bt221.1 bt221.2).bind fun t223 => ((impl_areWithin.f l0_2 0 (wrap64 (t223 - 1))).bind fun t224 => (if t224 = true then ((impl_Figure_grid.f a0_0 a0_1 l0_2 l0_3).bind fun bt225 => ((impl_grid_uprights.f bt225.1 bt225.2).bind fun t227 => ((impl_areWithin.f l0_3 0 (wrap64 (t227 - 1))).bind fun t228 => (some t228)))) else (some false))))) else (some false))) = some r := by rw [if_pos rfl] at H; exact H
   clear H
   have H := H1
   clear H1
   replace H := Option.bind_eq_some_iff.mp H
   obtain ⟨t220, A60, H⟩ := H
   replace H : (if t220 = true then ((impl_Figure_grid.f a0_0 a0_1 l0_2 l0_3).bind fun bt221 => ((impl_grid_levels.f bt221.1 bt221.2).bind fun t223 => ((impl_areWithin.f l0_2 0 (wrap64 (t223 - 1))).bind fun t224 => (if t224 = true then ((impl_Figure_grid.f a0_0 a0_1 l0_2 l0_3).bind fun bt225 => ((impl_grid_uprights.f bt225.1 bt225.2).bind fun t227 => ((impl_areWithin.f l0_3 0 (wrap64 (t227 - 1))).bind fun t228 => (some t228)))) else (some false))))) else (some false)) = some r := H
   have A6 := Aside0.mk A60
   clear A60
   by_cases c7 : t220 = true
   ·subst c7
    have H1 : ((impl_Figure_grid.f a0_0 a0_1 l0_2 l0_3).bind fun bt221 => ((impl_grid_levels.f bt221.1 bt221.2).bind fun t223 => ((impl_areWithin.f l0_2 0 (wrap64 (t223 - 1))).bind fun t224 => (if t224 = true then ((impl_Figure_grid.f a0_0 a0_1 l0_2 l0_3).bind fun bt225 => ((impl_grid_uprights.f bt225.1 bt225.2).bind fun t227 => ((impl_areWithin.f l0_3 0 (wrap64 (t227 - 1))).bind fun t228 => (some t228)))) else (some false))))) = some r := by rw [if_pos rfl] at H; exact H
    clear H
    have H := H1
    clear H1
    replace H := Option.bind_eq_some_iff.mp H
    obtain ⟨⟨t221, t222⟩, A80, H⟩ := H
    replace H : ((impl_grid_levels.f t221 t222).bind fun t223 => ((impl_areWithin.f l0_2 0 (wrap64 (t223 - 1))).bind fun t224 => (if t224 = true then ((impl_Figure_grid.f a0_0 a0_1 l0_2 l0_3).bind fun bt225 => ((impl_grid_uprights.f bt225.1 bt225.2).bind fun t227 => ((impl_areWithin.f l0_3 0 (wrap64 (t227 - 1))).bind fun t228 => (some t228)))) else (some false)))) = some r := H
    have A8 := Aside0.mk A80
    clear A80
    replace H := Option.bind_eq_some_iff.mp H
    obtain ⟨t223, A90, H⟩ := H
    replace H : ((impl_areWithin.f l0_2 0 (wrap64 (t223 - 1))).bind fun t224 => (if t224 = true then ((impl_Figure_grid.f a0_0 a0_1 l0_2 l0_3).bind fun bt225 => ((impl_grid_uprights.f bt225.1 bt225.2).bind fun t227 => ((impl_areWithin.f l0_3 0 (wrap64 (t227 - 1))).bind fun t228 => (some t228)))) else (some false))) = some r := H
    have A9 := Aside0.mk A90
    clear A90
    replace H := Option.bind_eq_some_iff.mp H
    obtain ⟨t224, A100, H⟩ := H
    replace H : (if t224 = true then ((impl_Figure_grid.f a0_0 a0_1 l0_2 l0_3).bind fun bt225 => ((impl_grid_uprights.f bt225.1 bt225.2).bind fun t227 => ((impl_areWithin.f l0_3 0 (wrap64 (t227 - 1))).bind fun t228 => (some t228)))) else (some false)) = some r := H
    have A10 := Aside0.mk A100
    clear A100
    by_cases c11 : t224 = true
    ·subst c11
     have H1 : ((impl_Figure_grid.f a0_0 a0_1 l0_2 l0_3).bind fun bt225 => ((impl_grid_uprights.f bt225.1 bt225.2).bind fun t227 => ((impl_areWithin.f l0_3 0 (wrap64 (t227 - 1))).bind fun t228 => (some t228)))) = some r := by rw [if_pos rfl] at H; exact H
     clear H
     have H := H1
     clear H1
     replace H := Option.bind_eq_some_iff.mp H
     obtain ⟨⟨t225, t226⟩, A120, H⟩ := H
     replace H : ((impl_grid_uprights.f t225 t226).bind fun t227 => ((impl_areWithin.f l0_3 0 (wrap64 (t227 - 1))).bind fun t228 => (some t228))) = some r := H
     have A12 := Aside0.mk A120
     clear A120
     replace H := Option.bind_eq_some_iff.mp H
     obtain ⟨t227, A130, H⟩ := H
     replace H : ((impl_areWithin.f l0_3 0 (wrap64 (t227 - 1))).bind fun t228 => (some t228)) = some r := H
     have A13 := Aside0.mk A130
     clear A130
     replace H := Option.bind_eq_some_iff.mp H
     obtain ⟨t228, A140, H⟩ := H
     replace H : (some t228) = some r := H
     have A14 := Aside0.mk A140
     clear A140
     obtain rfl := Option.some.inj H
     go_enter Tryd.func48, Tryd.ntmps48
     try go_wp2_with (first | ((with_reducible refine gate_dst (N := 1) rfl ?_); refine boxE_ (N := 1) (cs := #[.int .i64 a0_0, .int .i64 a0_1, .slice A0_2 l0_2.length c0_2, .slice A0_3 l0_3.length c0_3]) (t := 26) ?_; intro gb217 hg w15 hbox hb; have n0_ := Aside0.mk (below_step (bl0_ HB.out) hb); have n1_ := Aside0.mk (hbox); have n2_ := Aside0.mk ((bs0_ hg HB.out : w.heap.size ≤ gb217)); have n3_ := Aside0.mk ((bs0_ hg HB.out : w.heap.size ≤ gb217)); clear HB; have HB := n0_; have BK217 := n1_; have GW217 := n2_; have GE217 := n3_; clear n0_ n1_ n2_ n3_; clear hb hbox hg))
     have n0_ := Aside0.mk (blk_drew BK217.out)
     have n1_ := Aside0.mk (below_drew1 HB.out)
     clear BK217
     clear HB
     have BK217 := n0_
     have HB := n1_
     clear n0_ n1_
     refine start_ (n := 34) (S := fun w' => w'.cell? ⟨gb217, 0, none⟩ = some (.int .i64 a0_0) ∧ w'.cell? ⟨gb217, 1, none⟩ = some (.int .i64 a0_1) ∧ w'.cell? ⟨gb217, 2, none⟩ = some (.slice A0_2 l0_2.length c0_2) ∧ w'.cell? ⟨gb217, 3, none⟩ = some (.slice A0_3 l0_3.length c0_3)) (ds := []) #[Ff, Ff, Ff, Ff, Ff, Ff, Ff, Ff, Ff, Ff, Ff, Ff, Ff, Ff, Ff, Ff, Ff, Ff, Ff, Ff, Ff, Ff, Ff, Ff, Ff, Ff, Ff, Ff, Ff, Ff, Ff, Ff, Ff, Ff] (by kernel_rfl) rfl rfl ⟨(blk_cell BK217.out 0).trans rfl, (blk_cell BK217.out 1).trans rfl, (blk_cell BK217.out 2).trans rfl, (blk_cell BK217.out 3).trans rfl⟩ (fun hHeld => ?_); refine with_tabW impl_IsFigure.tab1 impl_IsFigure.bits1 (fun HT_ HW_ => ?_)
     generalize w15.drew = w16 at BK217 HB hHeld ⊢
     refine pZ (i := 0) (N := some 3) #[Tt, Ff, Ff, Ff, Ff, Ff, Ff, Ff, Ff, Ff, Ff, Ff, Ff, Ff, Ff, Ff, Ff, Ff, Ff, Ff, Ff, Ff, Ff, Ff, Ff, Ff, Ff, Ff, Ff, Ff, Ff, Ff, Ff, Ff] ?_
     refine pZ (i := 2) (N := some 5) #[Tt, Ff, Tt, Ff, Ff, Ff, Ff, Ff, Ff, Ff, Ff, Ff, Ff, Ff, Ff, Ff, Ff, Ff, Ff, Ff, Ff, Ff, Ff, Ff, Ff, Ff, Ff, Ff, Ff, Ff, Ff, Ff, Ff, Ff] ?_
     refine tZ (i := 1) (N := some 4) #[Tt, Tt, Tt, Ff, Ff, Ff, Ff, Ff, Ff, Ff, Ff, Ff, Ff, Ff, Ff, Ff, Ff, Ff, Ff, Ff, Ff, Ff, Ff, Ff, Ff, Ff, Ff, Ff, Ff, Ff, Ff, Ff, Ff, Ff] ?_
     refine tZ (i := 3) (N := some 6) #[Tt, Tt, Tt, Tt, Ff, Ff, Ff, Ff, Ff, Ff, Ff, Ff, Ff, Ff, Ff, Ff, Ff, Ff, Ff, Ff, Ff, Ff, Ff, Ff, Ff, Ff, Ff, Ff, Ff, Ff, Ff, Ff, Ff, Ff] ?_
     refine one_ (i := 4) (N := some 7) #[Tt, Tt, Tt, Tt, Tt, Ff, Ff, Ff, Ff, Ff, Ff, Ff, Ff, Ff, Ff, Ff, Ff, Ff, Ff, Ff, Ff, Ff, Ff, Ff, Ff, Ff, Ff, Ff, Ff, Ff, Ff, Ff, Ff, Ff] rfl rfl (one_of HT_.out (by kernel_rfl)) (by decide) (fun K hK => ?_)
     refine goes_ Tryd.func75 (by kernel_rfl) rfl #[.int .i64 a0_0, .int .i64 a0_1] (by rfl) rfl rfl ob_ ?_
     with_reducible refine (impl_isGrid.calls a0_0 a0_1 true _ A2.out).mono ?_
     rintro e w' ⟨rfl, ⟨nd, rfl⟩⟩
     refine ⟨_, rfl, ?_⟩
     refine hK.out _ _ ⟨(blk_cell BK217.out 0).trans rfl, (blk_cell BK217.out 1).trans rfl, (blk_cell BK217.out 2).trans rfl, (blk_cell BK217.out 3).trans rfl⟩ (fun hHeld => ?_)
     clear hK K
     refine norm_ (a' := _) ap_ ?_
     refine pZ (i := 5) (N := some 8) #[Tt, Tt, Tt, Tt, Tt, Tt, Ff, Ff, Ff, Ff, Ff, Ff, Ff, Ff, Ff, Ff, Ff, Ff, Ff, Ff, Ff, Ff, Ff, Ff, Ff, Ff, Ff, Ff, Ff, Ff, Ff, Ff, Ff, Ff] ?_
     refine pZ (i := 6) (N := some 9) #[Tt, Tt, Tt, Tt, Tt, Tt, Tt, Ff, Ff, Ff, Ff, Ff, Ff, Ff, Ff, Ff, Ff, Ff, Ff, Ff, Ff, Ff, Ff, Ff, Ff, Ff, Ff, Ff, Ff, Ff, Ff, Ff, Ff, Ff] ?_
     refine tZ (i := 7) (N := some 10) #[Tt, Tt, Tt, Tt, Tt, Tt, Tt, Tt, Ff, Ff, Ff, Ff, Ff, Ff, Ff, Ff, Ff, Ff, Ff, Ff, Ff, Ff, Ff, Ff, Ff, Ff, Ff, Ff, Ff, Ff, Ff, Ff, Ff, Ff] ?_
     refine one_ (i := 8) (N := some 11) #[Tt, Tt, Tt, Tt, Tt, Tt, Tt, Tt, Tt, Ff, Ff, Ff, Ff, Ff, Ff, Ff, Ff, Ff, Ff, Ff, Ff, Ff, Ff, Ff, Ff, Ff, Ff, Ff, Ff, Ff, Ff, Ff, Ff, Ff] rfl rfl (one_of HT_.out (by kernel_rfl)) (by decide) (fun K hK => ?_)
     refine goes_ Tryd.func76 (by kernel_rfl) rfl #[.slice A0_2 l0_2.length c0_2] (by rfl) rfl rfl ob_ ?_
     with_reducible refine (impl_isRising.calls k _ _ l0_2 true _ ?side1 ?side2 A4.out).mono ?_
     (case side1 => repeat (first | exact (Kd.C_below HR0_2.out (bl1_ HB.out GE217.out)) | (with_reducible refine Kd.C_alloc ?_ _) | (with_reducible refine Kd.C_drewN ?_ _) | (with_reducible refine Kd.C_drew ?_)))
     (case side2 => exact HC0_2.out)
     rintro e w' ⟨rfl, ⟨nd, rfl⟩⟩
     refine ⟨_, rfl, ?_⟩
     refine hK.out _ _ ⟨(blk_cell BK217.out 0).trans rfl, (blk_cell BK217.out 1).trans rfl, (blk_cell BK217.out 2).trans rfl, (blk_cell BK217.out 3).trans rfl⟩ (fun hHeld => ?_)
     clear hK K
     refine norm_ (a' := _) ap_ ?_
     refine pZ (i := 9) (N := some 12) #[Tt, Tt, Tt, Tt, Tt, Tt, Tt, Tt, Tt, Tt, Ff, Ff, Ff, Ff, Ff, Ff, Ff, Ff, Ff, Ff, Ff, Ff, Ff, Ff, Ff, Ff, Ff, Ff, Ff, Ff, Ff, Ff, Ff, Ff] ?_
     refine pZ (i := 10) (N := some 13) #[Tt, Tt, Tt, Tt, Tt, Tt, Tt, Tt, Tt, Tt, Tt, Ff, Ff, Ff, Ff, Ff, Ff, Ff, Ff, Ff, Ff, Ff, Ff, Ff, Ff, Ff, Ff, Ff, Ff, Ff, Ff, Ff, Ff, Ff] ?_
     refine pZ (i := 11) (N := some 14) #[Tt, Tt, Tt, Tt, Tt, Tt, Tt, Tt, Tt, Tt, Tt, Tt, Ff, Ff, Ff, Ff, Ff, Ff, Ff, Ff, Ff, Ff, Ff, Ff, Ff, Ff, Ff, Ff, Ff, Ff, Ff, Ff, Ff, Ff] ?_
     refine tZ (i := 12) (N := some 15) #[Tt, Tt, Tt, Tt, Tt, Tt, Tt, Tt, Tt, Tt, Tt, Tt, Tt, Ff, Ff, Ff, Ff, Ff, Ff, Ff, Ff, Ff, Ff, Ff, Ff, Ff, Ff, Ff, Ff, Ff, Ff, Ff, Ff, Ff] ?_
     refine one_ (i := 13) (N := some 16) #[Tt, Tt, Tt, Tt, Tt, Tt, Tt, Tt, Tt, Tt, Tt, Tt, Tt, Tt, Ff, Ff, Ff, Ff, Ff, Ff, Ff, Ff, Ff, Ff, Ff, Ff, Ff, Ff, Ff, Ff, Ff, Ff, Ff, Ff] rfl rfl (one_of HT_.out (by kernel_rfl)) (by decide) (fun K hK => ?_)
     refine goes_ Tryd.func76 (by kernel_rfl) rfl #[.slice A0_3 l0_3.length c0_3] (by rfl) rfl rfl ob_ ?_
     with_reducible refine (impl_isRising.calls k _ _ l0_3 true _ ?side1 ?side2 A6.out).mono ?_
     (case side1 => repeat (first | exact (Kd.C_below HR0_3.out (bl1_ HB.out GE217.out)) | (with_reducible refine Kd.C_alloc ?_ _) | (with_reducible refine Kd.C_drewN ?_ _) | (with_reducible refine Kd.C_drew ?_)))
     (case side2 => exact HC0_3.out)
     rintro e w' ⟨rfl, ⟨nd, rfl⟩⟩
     refine ⟨_, rfl, ?_⟩
     refine hK.out _ _ ⟨(blk_cell BK217.out 0).trans rfl, (blk_cell BK217.out 1).trans rfl, (blk_cell BK217.out 2).trans rfl, (blk_cell BK217.out 3).trans rfl⟩ (fun hHeld => ?_)
     clear hK K
     refine norm_ (a' := _) ap_ ?_
     refine pZ (i := 14) (N := some 17) #[Tt, Tt, Tt, Tt, Tt, Tt, Tt, Tt, Tt, Tt, Tt, Tt, Tt, Tt, Tt, Ff, Ff, Ff, Ff, Ff, Ff, Ff, Ff, Ff, Ff, Ff, Ff, Ff, Ff, Ff, Ff, Ff, Ff, Ff] ?_
     refine pZ (i := 15) (N := some 18) #[Tt, Tt, Tt, Tt, Tt, Tt, Tt, Tt, Tt, Tt, Tt, Tt, Tt, Tt, Tt, Tt, Ff, Ff, Ff, Ff, Ff, Ff, Ff, Ff, Ff, Ff, Ff, Ff, Ff, Ff, Ff, Ff, Ff, Ff] ?_
     refine pZ (i := 16) (N := some 19) #[Tt, Tt, Tt, Tt, Tt, Tt, Tt, Tt, Tt, Tt, Tt, Tt, Tt, Tt, Tt, Tt, Tt, Ff, Ff, Ff, Ff, Ff, Ff, Ff, Ff, Ff, Ff, Ff, Ff, Ff, Ff, Ff, Ff, Ff] ?_
     refine tZ (i := 17) (N := some 20) #[Tt, Tt, Tt, Tt, Tt, Tt, Tt, Tt, Tt, Tt, Tt, Tt, Tt, Tt, Tt, Tt, Tt, Tt, Ff, Ff, Ff, Ff, Ff, Ff, Ff, Ff, Ff, Ff, Ff, Ff, Ff, Ff, Ff, Ff] ?_
     refine tZ (i := 18) (N := some 21) #[Tt, Tt, Tt, Tt, Tt, Tt, Tt, Tt, Tt, Tt, Tt, Tt, Tt, Tt, Tt, Tt, Tt, Tt, Tt, Ff, Ff, Ff, Ff, Ff, Ff, Ff, Ff, Ff, Ff, Ff, Ff, Ff, Ff, Ff] ?_
     refine one_ (i := 19) (N := some 22) #[Tt, Tt, Tt, Tt, Tt, Tt, Tt, Tt, Tt, Tt, Tt, Tt, Tt, Tt, Tt, Tt, Tt, Tt, Tt, Tt, Ff, Ff, Ff, Ff, Ff, Ff, Ff, Ff, Ff, Ff, Ff, Ff, Ff, Ff] rfl rfl (one_of HT_.out (by kernel_rfl)) (by decide) (fun K hK => ?_)
     refine goes_ Tryd.func39 (by kernel_rfl) rfl #[.agg #[.int .i64 a0_0, .int .i64 a0_1, .slice A0_2 l0_2.length c0_2, .slice A0_3 l0_3.length c0_3]] (by rfl) rfl rfl ob_ ?_
     with_reducible refine (impl_Figure_grid.calls a0_0 a0_1 _ _ l0_2 _ _ l0_3 t221 t222 _ ?side1 ?side2 ?side3 ?side4 A8.out).mono ?_
     (case side1 => repeat (first | exact (Kd.C_below HR0_2.out (bl1_ HB.out GE217.out)) | (with_reducible refine Kd.C_alloc ?_ _) | (with_reducible refine Kd.C_drewN ?_ _) | (with_reducible refine Kd.C_drew ?_)))
     (case side2 => exact HC0_2.out)
     (case side3 => repeat (first | exact (Kd.C_below HR0_3.out (bl1_ HB.out GE217.out)) | (with_reducible refine Kd.C_alloc ?_ _) | (with_reducible refine Kd.C_drewN ?_ _) | (with_reducible refine Kd.C_drew ?_)))
     (case side4 => exact HC0_3.out)
     rintro e w17 ⟨rfl, hb⟩
     refine ⟨_, rfl, ?_⟩
     have n0_ := Aside0.mk (bb_ BK217.out hb)
     have n1_ := Aside0.mk (below_step (bl1_ HB.out GE217.out) hb)
     clear BK217
     clear HB
     have BK217 := n0_
     have HB := n1_
     clear n0_ n1_
     (try clear hb)
     (try clear hb2)
     (try clear hk)
     (try clear hi)
     refine hK.out _ _ ⟨(blk_cell BK217.out 0).trans rfl, (blk_cell BK217.out 1).trans rfl, (blk_cell BK217.out 2).trans rfl, (blk_cell BK217.out 3).trans rfl⟩ (fun hHeld => ?_)
     clear hK K
     refine norm_ (a' := _) ap_ ?_
     refine one_ (i := 20) (N := some 23) #[Tt, Tt, Tt, Tt, Tt, Tt, Tt, Tt, Tt, Tt, Tt, Tt, Tt, Tt, Tt, Tt, Tt, Tt, Tt, Tt, Tt, Ff, Ff, Ff, Ff, Ff, Ff, Ff, Ff, Ff, Ff, Ff, Ff, Ff] rfl rfl (one_of HT_.out (by kernel_rfl)) (by decide) (fun K hK => ?_)
     refine goes_ Tryd.func70 (by kernel_rfl) rfl #[.agg #[.int .i64 t221, .int .i64 t222]] (by rfl) rfl rfl ob_ ?_
     with_reducible refine (impl_grid_levels.calls t221 t222 t223 _ A9.out).mono ?_
     rintro e w18 ⟨rfl, hb⟩
     refine ⟨_, rfl, ?_⟩
     have n0_ := Aside0.mk (bb_ BK217.out hb)
     have n1_ := Aside0.mk (below_step (bl1_ HB.out GE217.out) hb)
     clear BK217
     clear HB
     have BK217 := n0_
     have HB := n1_
     clear n0_ n1_
     (try clear hb)
     (try clear hb2)
     (try clear hk)
     (try clear hi)
     refine hK.out _ _ ⟨(blk_cell BK217.out 0).trans rfl, (blk_cell BK217.out 1).trans rfl, (blk_cell BK217.out 2).trans rfl, (blk_cell BK217.out 3).trans rfl⟩ (fun hHeld => ?_)
     clear hK K
     refine norm_ (a' := _) ap_ ?_
     refine pZ (i := 21) (N := some 24) #[Tt, Tt, Tt, Tt, Tt, Tt, Tt, Tt, Tt, Tt, Tt, Tt, Tt, Tt, Tt, Tt, Tt, Tt, Tt, Tt, Tt, Tt, Ff, Ff, Ff, Ff, Ff, Ff, Ff, Ff, Ff, Ff, Ff, Ff] ?_
     refine one_ (i := 22) (N := some 25) #[Tt, Tt, Tt, Tt, Tt, Tt, Tt, Tt, Tt, Tt, Tt, Tt, Tt, Tt, Tt, Tt, Tt, Tt, Tt, Tt, Tt, Tt, Tt, Ff, Ff, Ff, Ff, Ff, Ff, Ff, Ff, Ff, Ff, Ff] rfl rfl (one_of HT_.out (by kernel_rfl)) (by decide) (fun K hK => ?_)
     refine goes_ Tryd.func77 (by kernel_rfl) rfl #[.slice A0_2 l0_2.length c0_2, .int .i64 0, .int .i64 (wrap64 (t223 - 1))] (by rfl) rfl rfl ob_ ?_
     with_reducible refine (impl_areWithin.calls _ _ l0_2 0 (wrap64 (t223 - 1)) true _ ?side1 ?side2 A10.out).mono ?_
     (case side1 => exact kc_ (Kd.C_below HR0_2.out HB.out))
     (case side2 => exact HC0_2.out)
     rintro e w19 ⟨rfl, hb⟩
     refine ⟨_, rfl, ?_⟩
     have n0_ := Aside0.mk (bb_ BK217.out hb)
     have n1_ := Aside0.mk (below_step (bl1_ HB.out GE217.out) hb)
     clear BK217
     clear HB
     have BK217 := n0_
     have HB := n1_
     clear n0_ n1_
     (try clear hb)
     (try clear hb2)
     (try clear hk)
     (try clear hi)
     refine hK.out _ _ ⟨(blk_cell BK217.out 0).trans rfl, (blk_cell BK217.out 1).trans rfl, (blk_cell BK217.out 2).trans rfl, (blk_cell BK217.out 3).trans rfl⟩ (fun hHeld => ?_)
     clear hK K
     refine norm_ (a' := _) ap_ ?_
     refine pZ (i := 23) (N := some 26) #[Tt, Tt, Tt, Tt, Tt, Tt, Tt, Tt, Tt, Tt, Tt, Tt, Tt, Tt, Tt, Tt, Tt, Tt, Tt, Tt, Tt, Tt, Tt, Tt, Ff, Ff, Ff, Ff, Ff, Ff, Ff, Ff, Ff, Ff] ?_
     refine pZ (i := 24) (N := some 27) #[Tt, Tt, Tt, Tt, Tt, Tt, Tt, Tt, Tt, Tt, Tt, Tt, Tt, Tt, Tt, Tt, Tt, Tt, Tt, Tt, Tt, Tt, Tt, Tt, Tt, Ff, Ff, Ff, Ff, Ff, Ff, Ff, Ff, Ff] ?_
     refine pZ (i := 25) (N := some 28) #[Tt, Tt, Tt, Tt, Tt, Tt, Tt, Tt, Tt, Tt, Tt, Tt, Tt, Tt, Tt, Tt, Tt, Tt, Tt, Tt, Tt, Tt, Tt, Tt, Tt, Tt, Ff, Ff, Ff, Ff, Ff, Ff, Ff, Ff] ?_
     refine tZ (i := 26) (N := some 29) #[Tt, Tt, Tt, Tt, Tt, Tt, Tt, Tt, Tt, Tt, Tt, Tt, Tt, Tt, Tt, Tt, Tt, Tt, Tt, Tt, Tt, Tt, Tt, Tt, Tt, Tt, Tt, Ff, Ff, Ff, Ff, Ff, Ff, Ff] ?_
     refine tZ (i := 27) (N := some 30) #[Tt, Tt, Tt, Tt, Tt, Tt, Tt, Tt, Tt, Tt, Tt, Tt, Tt, Tt, Tt, Tt, Tt, Tt, Tt, Tt, Tt, Tt, Tt, Tt, Tt, Tt, Tt, Tt, Ff, Ff, Ff, Ff, Ff, Ff] ?_
     refine one_ (i := 28) (N := some 31) #[Tt, Tt, Tt, Tt, Tt, Tt, Tt, Tt, Tt, Tt, Tt, Tt, Tt, Tt, Tt, Tt, Tt, Tt, Tt, Tt, Tt, Tt, Tt, Tt, Tt, Tt, Tt, Tt, Tt, Ff, Ff, Ff, Ff, Ff] rfl rfl (one_of HT_.out (by kernel_rfl)) (by decide) (fun K hK => ?_)
     refine goes_ Tryd.func39 (by kernel_rfl) rfl #[.agg #[.int .i64 a0_0, .int .i64 a0_1, .slice A0_2 l0_2.length c0_2, .slice A0_3 l0_3.length c0_3]] (by rfl) rfl rfl ob_ ?_
     with_reducible refine (impl_Figure_grid.calls a0_0 a0_1 _ _ l0_2 _ _ l0_3 t225 t226 _ ?side1 ?side2 ?side3 ?side4 A12.out).mono ?_
     (case side1 => exact kc_ (Kd.C_below HR0_2.out HB.out))
     (case side2 => exact HC0_2.out)
     (case side3 => exact kc_ (Kd.C_below HR0_3.out HB.out))
     (case side4 => exact HC0_3.out)
     rintro e w20 ⟨rfl, hb⟩
     refine ⟨_, rfl, ?_⟩
     have n0_ := Aside0.mk (bb_ BK217.out hb)
     have n1_ := Aside0.mk (below_step (bl1_ HB.out GE217.out) hb)
     clear BK217
     clear HB
     have BK217 := n0_
     have HB := n1_
     clear n0_ n1_
     (try clear hb)
     (try clear hb2)
     (try clear hk)
     (try clear hi)
     refine hK.out _ _ ⟨(blk_cell BK217.out 0).trans rfl, (blk_cell BK217.out 1).trans rfl, (blk_cell BK217.out 2).trans rfl, (blk_cell BK217.out 3).trans rfl⟩ (fun hHeld => ?_)
     clear hK K
     refine norm_ (a' := _) ap_ ?_
     refine one_ (i := 29) (N := some 32) #[Tt, Tt, Tt, Tt, Tt, Tt, Tt, Tt, Tt, Tt, Tt, Tt, Tt, Tt, Tt, Tt, Tt, Tt, Tt, Tt, Tt, Tt, Tt, Tt, Tt, Tt, Tt, Tt, Tt, Tt, Ff, Ff, Ff, Ff] rfl rfl (one_of HT_.out (by kernel_rfl)) (by decide) (fun K hK => ?_)
     refine goes_ Tryd.func78 (by kernel_rfl) rfl #[.agg #[.int .i64 t225, .int .i64 t226]] (by rfl) rfl rfl ob_ ?_
     with_reducible refine (impl_grid_uprights.calls t225 t226 t227 _ A13.out).mono ?_
     rintro e w21 ⟨rfl, hb⟩
     refine ⟨_, rfl, ?_⟩
     have n0_ := Aside0.mk (bb_ BK217.out hb)
     have n1_ := Aside0.mk (below_step (bl1_ HB.out GE217.out) hb)
     clear BK217
     clear HB
     have BK217 := n0_
     have HB := n1_
     clear n0_ n1_
     (try clear hb)
     (try clear hb2)
     (try clear hk)
     (try clear hi)
     refine hK.out _ _ ⟨(blk_cell BK217.out 0).trans rfl, (blk_cell BK217.out 1).trans rfl, (blk_cell BK217.out 2).trans rfl, (blk_cell BK217.out 3).trans rfl⟩ (fun hHeld => ?_)
     clear hK K
     refine norm_ (a' := _) ap_ ?_
     refine pZ (i := 30) (N := some 33) #[Tt, Tt, Tt, Tt, Tt, Tt, Tt, Tt, Tt, Tt, Tt, Tt, Tt, Tt, Tt, Tt, Tt, Tt, Tt, Tt, Tt, Tt, Tt, Tt, Tt, Tt, Tt, Tt, Tt, Tt, Tt, Ff, Ff, Ff] ?_
     refine one_ (i := 31) (N := some 34) #[Tt, Tt, Tt, Tt, Tt, Tt, Tt, Tt, Tt, Tt, Tt, Tt, Tt, Tt, Tt, Tt, Tt, Tt, Tt, Tt, Tt, Tt, Tt, Tt, Tt, Tt, Tt, Tt, Tt, Tt, Tt, Tt, Ff, Ff] rfl rfl (one_of HT_.out (by kernel_rfl)) (by decide) (fun K hK => ?_)
     refine goes_ Tryd.func77 (by kernel_rfl) rfl #[.slice A0_3 l0_3.length c0_3, .int .i64 0, .int .i64 (wrap64 (t227 - 1))] (by rfl) rfl rfl ob_ ?_
     with_reducible refine (impl_areWithin.calls _ _ l0_3 0 (wrap64 (t227 - 1)) t228 _ ?side1 ?side2 A14.out).mono ?_
     (case side1 => exact kc_ (Kd.C_below HR0_3.out HB.out))
     (case side2 => exact HC0_3.out)
     rintro e w22 ⟨rfl, hb⟩
     refine ⟨_, rfl, ?_⟩
     have n0_ := Aside0.mk (bb_ BK217.out hb)
     have n1_ := Aside0.mk (below_step (bl1_ HB.out GE217.out) hb)
     clear BK217
     clear HB
     have BK217 := n0_
     have HB := n1_
     clear n0_ n1_
     (try clear hb)
     (try clear hb2)
     (try clear hk)
     (try clear hi)
     refine hK.out _ _ ⟨(blk_cell BK217.out 0).trans rfl, (blk_cell BK217.out 1).trans rfl, (blk_cell BK217.out 2).trans rfl, (blk_cell BK217.out 3).trans rfl⟩ (fun hHeld => ?_)
     clear hK K
     refine norm_ (a' := _) ap_ ?_
     refine pZ (i := 32) (N := some 35) #[Tt, Tt, Tt, Tt, Tt, Tt, Tt, Tt, Tt, Tt, Tt, Tt, Tt, Tt, Tt, Tt, Tt, Tt, Tt, Tt, Tt, Tt, Tt, Tt, Tt, Tt, Tt, Tt, Tt, Tt, Tt, Tt, Tt, Ff] ?_
     refine pZ (i := 33) (N := some 2) #[Tt, Tt, Tt, Tt, Tt, Tt, Tt, Tt, Tt, Tt, Tt, Tt, Tt, Tt, Tt, Tt, Tt, Tt, Tt, Tt, Tt, Tt, Tt, Tt, Tt, Tt, Tt, Tt, Tt, Tt, Tt, Tt, Tt, Tt] ?_
     refine done_ (done_of HT_.out (by kernel_rfl)) ?_
     try go_wp2
     go_ret
     exact ⟨er_, bl1_ HB.out GE217.out⟩
    ·replace c11 := Bool.eq_false_iff.mpr c11
     subst c11
     have H1 : (some false) = some r := by rw [if_neg (show ¬ (false = true) by decide)] at H; exact H
     clear H
     have H := H1
     clear H1
     obtain rfl := Option.some.inj H
     go_enter Tryd.func48, Tryd.ntmps48
     try go_wp2_with (first | ((with_reducible refine gate_dst (N := 1) rfl ?_); refine boxE_ (N := 1) (cs := #[.int .i64 a0_0, .int .i64 a0_1, .slice A0_2 l0_2.length c0_2, .slice A0_3 l0_3.length c0_3]) (t := 26) ?_; intro gb217 hg w23 hbox hb; have n0_ := Aside0.mk (below_step (bl0_ HB.out) hb); have n1_ := Aside0.mk (hbox); have n2_ := Aside0.mk ((bs0_ hg HB.out : w.heap.size ≤ gb217)); have n3_ := Aside0.mk ((bs0_ hg HB.out : w.heap.size ≤ gb217)); clear HB; have HB := n0_; have BK217 := n1_; have GW217 := n2_; have GE217 := n3_; clear n0_ n1_ n2_ n3_; clear hb hbox hg))
     have n0_ := Aside0.mk (blk_drew BK217.out)
     have n1_ := Aside0.mk (below_drew1 HB.out)
     clear BK217
     clear HB
     have BK217 := n0_
     have HB := n1_
     clear n0_ n1_
     refine start_ (n := 34) (S := fun w' => w'.cell? ⟨gb217, 0, none⟩ = some (.int .i64 a0_0) ∧ w'.cell? ⟨gb217, 1, none⟩ = some (.int .i64 a0_1) ∧ w'.cell? ⟨gb217, 2, none⟩ = some (.slice A0_2 l0_2.length c0_2) ∧ w'.cell? ⟨gb217, 3, none⟩ = some (.slice A0_3 l0_3.length c0_3)) (ds := []) #[Ff, Ff, Ff, Ff, Ff, Ff, Ff, Ff, Ff, Ff, Ff, Ff, Ff, Ff, Ff, Ff, Ff, Ff, Ff, Ff, Ff, Ff, Ff, Ff, Ff, Ff, Ff, Ff, Ff, Ff, Ff, Ff, Ff, Ff] (by kernel_rfl) rfl rfl ⟨(blk_cell BK217.out 0).trans rfl, (blk_cell BK217.out 1).trans rfl, (blk_cell BK217.out 2).trans rfl, (blk_cell BK217.out 3).trans rfl⟩ (fun hHeld => ?_); refine with_tabW impl_IsFigure.tab1 impl_IsFigure.bits1 (fun HT_ HW_ => ?_)
     generalize w23.drew = w24 at BK217 HB hHeld ⊢
     refine pZ (i := 0) (N := some 3) #[Tt, Ff, Ff, Ff, Ff, Ff, Ff, Ff, Ff, Ff, Ff, Ff, Ff, Ff, Ff, Ff, Ff, Ff, Ff, Ff, Ff, Ff, Ff, Ff, Ff, Ff, Ff, Ff, Ff, Ff, Ff, Ff, Ff, Ff] ?_
     refine pZ (i := 2) (N := some 5) #[Tt, Ff, Tt, Ff, Ff, Ff, Ff, Ff, Ff, Ff, Ff, Ff, Ff, Ff, Ff, Ff, Ff, Ff, Ff, Ff, Ff, Ff, Ff, Ff, Ff, Ff, Ff, Ff, Ff, Ff, Ff, Ff, Ff, Ff] ?_
     refine tZ (i := 1) (N := some 4) #[Tt, Tt, Tt, Ff, Ff, Ff, Ff, Ff, Ff, Ff, Ff, Ff, Ff, Ff, Ff, Ff, Ff, Ff, Ff, Ff, Ff, Ff, Ff, Ff, Ff, Ff, Ff, Ff, Ff, Ff, Ff, Ff, Ff, Ff] ?_
     refine tZ (i := 3) (N := some 6) #[Tt, Tt, Tt, Tt, Ff, Ff, Ff, Ff, Ff, Ff, Ff, Ff, Ff, Ff, Ff, Ff, Ff, Ff, Ff, Ff, Ff, Ff, Ff, Ff, Ff, Ff, Ff, Ff, Ff, Ff, Ff, Ff, Ff, Ff] ?_
     refine one_ (i := 4) (N := some 7) #[Tt, Tt, Tt, Tt, Tt, Ff, Ff, Ff, Ff, Ff, Ff, Ff, Ff, Ff, Ff, Ff, Ff, Ff, Ff, Ff, Ff, Ff, Ff, Ff, Ff, Ff, Ff, Ff, Ff, Ff, Ff, Ff, Ff, Ff] rfl rfl (one_of HT_.out (by kernel_rfl)) (by decide) (fun K hK => ?_)
     refine goes_ Tryd.func75 (by kernel_rfl) rfl #[.int .i64 a0_0, .int .i64 a0_1] (by rfl) rfl rfl ob_ ?_
     with_reducible refine (impl_isGrid.calls a0_0 a0_1 true _ A2.out).mono ?_
     rintro e w' ⟨rfl, ⟨nd, rfl⟩⟩
     refine ⟨_, rfl, ?_⟩
     refine hK.out _ _ ⟨(blk_cell BK217.out 0).trans rfl, (blk_cell BK217.out 1).trans rfl, (blk_cell BK217.out 2).trans rfl, (blk_cell BK217.out 3).trans rfl⟩ (fun hHeld => ?_)
     clear hK K
     refine norm_ (a' := _) ap_ ?_
     refine pZ (i := 5) (N := some 8) #[Tt, Tt, Tt, Tt, Tt, Tt, Ff, Ff, Ff, Ff, Ff, Ff, Ff, Ff, Ff, Ff, Ff, Ff, Ff, Ff, Ff, Ff, Ff, Ff, Ff, Ff, Ff, Ff, Ff, Ff, Ff, Ff, Ff, Ff] ?_
     refine pZ (i := 6) (N := some 9) #[Tt, Tt, Tt, Tt, Tt, Tt, Tt, Ff, Ff, Ff, Ff, Ff, Ff, Ff, Ff, Ff, Ff, Ff, Ff, Ff, Ff, Ff, Ff, Ff, Ff, Ff, Ff, Ff, Ff, Ff, Ff, Ff, Ff, Ff] ?_
     refine tZ (i := 7) (N := some 10) #[Tt, Tt, Tt, Tt, Tt, Tt, Tt, Tt, Ff, Ff, Ff, Ff, Ff, Ff, Ff, Ff, Ff, Ff, Ff, Ff, Ff, Ff, Ff, Ff, Ff, Ff, Ff, Ff, Ff, Ff, Ff, Ff, Ff, Ff] ?_
     refine one_ (i := 8) (N := some 11) #[Tt, Tt, Tt, Tt, Tt, Tt, Tt, Tt, Tt, Ff, Ff, Ff, Ff, Ff, Ff, Ff, Ff, Ff, Ff, Ff, Ff, Ff, Ff, Ff, Ff, Ff, Ff, Ff, Ff, Ff, Ff, Ff, Ff, Ff] rfl rfl (one_of HT_.out (by kernel_rfl)) (by decide) (fun K hK => ?_)
     refine goes_ Tryd.func76 (by kernel_rfl) rfl #[.slice A0_2 l0_2.length c0_2] (by rfl) rfl rfl ob_ ?_
     with_reducible refine (impl_isRising.calls k _ _ l0_2 true _ ?side1 ?side2 A4.out).mono ?_
     (case side1 => repeat (first | exact (Kd.C_below HR0_2.out (bl1_ HB.out GE217.out)) | (with_reducible refine Kd.C_alloc ?_ _) | (with_reducible refine Kd.C_drewN ?_ _) | (with_reducible refine Kd.C_drew ?_)))
     (case side2 => exact HC0_2.out)
     rintro e w' ⟨rfl, ⟨nd, rfl⟩⟩
     refine ⟨_, rfl, ?_⟩
     refine hK.out _ _ ⟨(blk_cell BK217.out 0).trans rfl, (blk_cell BK217.out 1).trans rfl, (blk_cell BK217.out 2).trans rfl, (blk_cell BK217.out 3).trans rfl⟩ (fun hHeld => ?_)
     clear hK K
     refine norm_ (a' := _) ap_ ?_
     refine pZ (i := 9) (N := some 12) #[Tt, Tt, Tt, Tt, Tt, Tt, Tt, Tt, Tt, Tt, Ff, Ff, Ff, Ff, Ff, Ff, Ff, Ff, Ff, Ff, Ff, Ff, Ff, Ff, Ff, Ff, Ff, Ff, Ff, Ff, Ff, Ff, Ff, Ff] ?_
     refine pZ (i := 10) (N := some 13) #[Tt, Tt, Tt, Tt, Tt, Tt, Tt, Tt, Tt, Tt, Tt, Ff, Ff, Ff, Ff, Ff, Ff, Ff, Ff, Ff, Ff, Ff, Ff, Ff, Ff, Ff, Ff, Ff, Ff, Ff, Ff, Ff, Ff, Ff] ?_
     refine pZ (i := 11) (N := some 14) #[Tt, Tt, Tt, Tt, Tt, Tt, Tt, Tt, Tt, Tt, Tt, Tt, Ff, Ff, Ff, Ff, Ff, Ff, Ff, Ff, Ff, Ff, Ff, Ff, Ff, Ff, Ff, Ff, Ff, Ff, Ff, Ff, Ff, Ff] ?_
     refine tZ (i := 12) (N := some 15) #[Tt, Tt, Tt, Tt, Tt, Tt, Tt, Tt, Tt, Tt, Tt, Tt, Tt, Ff, Ff, Ff, Ff, Ff, Ff, Ff, Ff, Ff, Ff, Ff, Ff, Ff, Ff, Ff, Ff, Ff, Ff, Ff, Ff, Ff] ?_
     refine one_ (i := 13) (N := some 16) #[Tt, Tt, Tt, Tt, Tt, Tt, Tt, Tt, Tt, Tt, Tt, Tt, Tt, Tt, Ff, Ff, Ff, Ff, Ff, Ff, Ff, Ff, Ff, Ff, Ff, Ff, Ff, Ff, Ff, Ff, Ff, Ff, Ff, Ff] rfl rfl (one_of HT_.out (by kernel_rfl)) (by decide) (fun K hK => ?_)
     refine goes_ Tryd.func76 (by kernel_rfl) rfl #[.slice A0_3 l0_3.length c0_3] (by rfl) rfl rfl ob_ ?_
     with_reducible refine (impl_isRising.calls k _ _ l0_3 true _ ?side1 ?side2 A6.out).mono ?_
     (case side1 => repeat (first | exact (Kd.C_below HR0_3.out (bl1_ HB.out GE217.out)) | (with_reducible refine Kd.C_alloc ?_ _) | (with_reducible refine Kd.C_drewN ?_ _) | (with_reducible refine Kd.C_drew ?_)))
     (case side2 => exact HC0_3.out)
     rintro e w' ⟨rfl, ⟨nd, rfl⟩⟩
     refine ⟨_, rfl, ?_⟩
     refine hK.out _ _ ⟨(blk_cell BK217.out 0).trans rfl, (blk_cell BK217.out 1).trans rfl, (blk_cell BK217.out 2).trans rfl, (blk_cell BK217.out 3).trans rfl⟩ (fun hHeld => ?_)
     clear hK K
     refine norm_ (a' := _) ap_ ?_
     refine pZ (i := 14) (N := some 17) #[Tt, Tt, Tt, Tt, Tt, Tt, Tt, Tt, Tt, Tt, Tt, Tt, Tt, Tt, Tt, Ff, Ff, Ff, Ff, Ff, Ff, Ff, Ff, Ff, Ff, Ff, Ff, Ff, Ff, Ff, Ff, Ff, Ff, Ff] ?_
     refine pZ (i := 15) (N := some 18) #[Tt, Tt, Tt, Tt, Tt, Tt, Tt, Tt, Tt, Tt, Tt, Tt, Tt, Tt, Tt, Tt, Ff, Ff, Ff, Ff, Ff, Ff, Ff, Ff, Ff, Ff, Ff, Ff, Ff, Ff, Ff, Ff, Ff, Ff] ?_
     refine pZ (i := 16) (N := some 19) #[Tt, Tt, Tt, Tt, Tt, Tt, Tt, Tt, Tt, Tt, Tt, Tt, Tt, Tt, Tt, Tt, Tt, Ff, Ff, Ff, Ff, Ff, Ff, Ff, Ff, Ff, Ff, Ff, Ff, Ff, Ff, Ff, Ff, Ff] ?_
     refine tZ (i := 17) (N := some 20) #[Tt, Tt, Tt, Tt, Tt, Tt, Tt, Tt, Tt, Tt, Tt, Tt, Tt, Tt, Tt, Tt, Tt, Tt, Ff, Ff, Ff, Ff, Ff, Ff, Ff, Ff, Ff, Ff, Ff, Ff, Ff, Ff, Ff, Ff] ?_
     refine tZ (i := 18) (N := some 21) #[Tt, Tt, Tt, Tt, Tt, Tt, Tt, Tt, Tt, Tt, Tt, Tt, Tt, Tt, Tt, Tt, Tt, Tt, Tt, Ff, Ff, Ff, Ff, Ff, Ff, Ff, Ff, Ff, Ff, Ff, Ff, Ff, Ff, Ff] ?_
     refine one_ (i := 19) (N := some 22) #[Tt, Tt, Tt, Tt, Tt, Tt, Tt, Tt, Tt, Tt, Tt, Tt, Tt, Tt, Tt, Tt, Tt, Tt, Tt, Tt, Ff, Ff, Ff, Ff, Ff, Ff, Ff, Ff, Ff, Ff, Ff, Ff, Ff, Ff] rfl rfl (one_of HT_.out (by kernel_rfl)) (by decide) (fun K hK => ?_)
     refine goes_ Tryd.func39 (by kernel_rfl) rfl #[.agg #[.int .i64 a0_0, .int .i64 a0_1, .slice A0_2 l0_2.length c0_2, .slice A0_3 l0_3.length c0_3]] (by rfl) rfl rfl ob_ ?_
     with_reducible refine (impl_Figure_grid.calls a0_0 a0_1 _ _ l0_2 _ _ l0_3 t221 t222 _ ?side1 ?side2 ?side3 ?side4 A8.out).mono ?_
     (case side1 => repeat (first | exact (Kd.C_below HR0_2.out (bl1_ HB.out GE217.out)) | (with_reducible refine Kd.C_alloc ?_ _) | (with_reducible refine Kd.C_drewN ?_ _) | (with_reducible refine Kd.C_drew ?_)))
     (case side2 => exact HC0_2.out)
     (case side3 => repeat (first | exact (Kd.C_below HR0_3.out (bl1_ HB.out GE217.out)) | (with_reducible refine Kd.C_alloc ?_ _) | (with_reducible refine Kd.C_drewN ?_ _) | (with_reducible refine Kd.C_drew ?_)))
     (case side4 => exact HC0_3.out)
     rintro e w25 ⟨rfl, hb⟩
     refine ⟨_, rfl, ?_⟩
     have n0_ := Aside0.mk (bb_ BK217.out hb)
     have n1_ := Aside0.mk (below_step (bl1_ HB.out GE217.out) hb)
     clear BK217
     clear HB
     have BK217 := n0_
     have HB := n1_
     clear n0_ n1_
     (try clear hb)
     (try clear hb2)
     (try clear hk)
     (try clear hi)
     refine hK.out _ _ ⟨(blk_cell BK217.out 0).trans rfl, (blk_cell BK217.out 1).trans rfl, (blk_cell BK217.out 2).trans rfl, (blk_cell BK217.out 3).trans rfl⟩ (fun hHeld => ?_)
     clear hK K
     refine norm_ (a' := _) ap_ ?_
     refine one_ (i := 20) (N := some 23) #[Tt, Tt, Tt, Tt, Tt, Tt, Tt, Tt, Tt, Tt, Tt, Tt, Tt, Tt, Tt, Tt, Tt, Tt, Tt, Tt, Tt, Ff, Ff, Ff, Ff, Ff, Ff, Ff, Ff, Ff, Ff, Ff, Ff, Ff] rfl rfl (one_of HT_.out (by kernel_rfl)) (by decide) (fun K hK => ?_)
     refine goes_ Tryd.func70 (by kernel_rfl) rfl #[.agg #[.int .i64 t221, .int .i64 t222]] (by rfl) rfl rfl ob_ ?_
     with_reducible refine (impl_grid_levels.calls t221 t222 t223 _ A9.out).mono ?_
     rintro e w26 ⟨rfl, hb⟩
     refine ⟨_, rfl, ?_⟩
     have n0_ := Aside0.mk (bb_ BK217.out hb)
     have n1_ := Aside0.mk (below_step (bl1_ HB.out GE217.out) hb)
     clear BK217
     clear HB
     have BK217 := n0_
     have HB := n1_
     clear n0_ n1_
     (try clear hb)
     (try clear hb2)
     (try clear hk)
     (try clear hi)
     refine hK.out _ _ ⟨(blk_cell BK217.out 0).trans rfl, (blk_cell BK217.out 1).trans rfl, (blk_cell BK217.out 2).trans rfl, (blk_cell BK217.out 3).trans rfl⟩ (fun hHeld => ?_)
     clear hK K
     refine norm_ (a' := _) ap_ ?_
     refine pZ (i := 21) (N := some 24) #[Tt, Tt, Tt, Tt, Tt, Tt, Tt, Tt, Tt, Tt, Tt, Tt, Tt, Tt, Tt, Tt, Tt, Tt, Tt, Tt, Tt, Tt, Ff, Ff, Ff, Ff, Ff, Ff, Ff, Ff, Ff, Ff, Ff, Ff] ?_
     refine one_ (i := 22) (N := some 25) #[Tt, Tt, Tt, Tt, Tt, Tt, Tt, Tt, Tt, Tt, Tt, Tt, Tt, Tt, Tt, Tt, Tt, Tt, Tt, Tt, Tt, Tt, Tt, Ff, Ff, Ff, Ff, Ff, Ff, Ff, Ff, Ff, Ff, Ff] rfl rfl (one_of HT_.out (by kernel_rfl)) (by decide) (fun K hK => ?_)
     refine goes_ Tryd.func77 (by kernel_rfl) rfl #[.slice A0_2 l0_2.length c0_2, .int .i64 0, .int .i64 (wrap64 (t223 - 1))] (by rfl) rfl rfl ob_ ?_
     with_reducible refine (impl_areWithin.calls _ _ l0_2 0 (wrap64 (t223 - 1)) false _ ?side1 ?side2 A10.out).mono ?_
     (case side1 => exact kc_ (Kd.C_below HR0_2.out HB.out))
     (case side2 => exact HC0_2.out)
     rintro e w27 ⟨rfl, hb⟩
     refine ⟨_, rfl, ?_⟩
     have n0_ := Aside0.mk (bb_ BK217.out hb)
     have n1_ := Aside0.mk (below_step (bl1_ HB.out GE217.out) hb)
     clear BK217
     clear HB
     have BK217 := n0_
     have HB := n1_
     clear n0_ n1_
     (try clear hb)
     (try clear hb2)
     (try clear hk)
     (try clear hi)
     refine hK.out _ _ ⟨(blk_cell BK217.out 0).trans rfl, (blk_cell BK217.out 1).trans rfl, (blk_cell BK217.out 2).trans rfl, (blk_cell BK217.out 3).trans rfl⟩ (fun hHeld => ?_)
     clear hK K
     refine norm_ (a' := _) ap_ ?_
     refine pZ (i := 23) (N := some 26) #[Tt, Tt, Tt, Tt, Tt, Tt, Tt, Tt, Tt, Tt, Tt, Tt, Tt, Tt, Tt, Tt, Tt, Tt, Tt, Tt, Tt, Tt, Tt, Tt, Ff, Ff, Ff, Ff, Ff, Ff, Ff, Ff, Ff, Ff] ?_
     refine pZ (i := 24) (N := some 27) #[Tt, Tt, Tt, Tt, Tt, Tt, Tt, Tt, Tt, Tt, Tt, Tt, Tt, Tt, Tt, Tt, Tt, Tt, Tt, Tt, Tt, Tt, Tt, Tt, Tt, Ff, Ff, Ff, Ff, Ff, Ff, Ff, Ff, Ff] ?_
     refine pU (i := 25) (N := some 28) #[Tt, Tt, Tt, Tt, Tt, Tt, Tt, Tt, Tt, Tt, Tt, Tt, Tt, Tt, Tt, Tt, Tt, Tt, Tt, Tt, Tt, Tt, Tt, Tt, Tt, Tt, Ff, Ff, Ff, Ff, Ff, Ff, Ff, Ff] ?_
     refine pU (i := 26) (N := some 29) #[Tt, Tt, Tt, Tt, Tt, Tt, Tt, Tt, Tt, Tt, Tt, Tt, Tt, Tt, Tt, Tt, Tt, Tt, Tt, Tt, Tt, Tt, Tt, Tt, Tt, Tt, Tt, Ff, Ff, Ff, Ff, Ff, Ff, Ff] ?_
     refine pU (i := 27) (N := some 30) #[Tt, Tt, Tt, Tt, Tt, Tt, Tt, Tt, Tt, Tt, Tt, Tt, Tt, Tt, Tt, Tt, Tt, Tt, Tt, Tt, Tt, Tt, Tt, Tt, Tt, Tt, Tt, Tt, Ff, Ff, Ff, Ff, Ff, Ff] ?_
     refine pU (i := 28) (N := some 31) #[Tt, Tt, Tt, Tt, Tt, Tt, Tt, Tt, Tt, Tt, Tt, Tt, Tt, Tt, Tt, Tt, Tt, Tt, Tt, Tt, Tt, Tt, Tt, Tt, Tt, Tt, Tt, Tt, Tt, Ff, Ff, Ff, Ff, Ff] ?_
     refine pU (i := 29) (N := some 32) #[Tt, Tt, Tt, Tt, Tt, Tt, Tt, Tt, Tt, Tt, Tt, Tt, Tt, Tt, Tt, Tt, Tt, Tt, Tt, Tt, Tt, Tt, Tt, Tt, Tt, Tt, Tt, Tt, Tt, Tt, Ff, Ff, Ff, Ff] ?_
     refine pU (i := 30) (N := some 33) #[Tt, Tt, Tt, Tt, Tt, Tt, Tt, Tt, Tt, Tt, Tt, Tt, Tt, Tt, Tt, Tt, Tt, Tt, Tt, Tt, Tt, Tt, Tt, Tt, Tt, Tt, Tt, Tt, Tt, Tt, Tt, Ff, Ff, Ff] ?_
     refine pU (i := 31) (N := some 34) #[Tt, Tt, Tt, Tt, Tt, Tt, Tt, Tt, Tt, Tt, Tt, Tt, Tt, Tt, Tt, Tt, Tt, Tt, Tt, Tt, Tt, Tt, Tt, Tt, Tt, Tt, Tt, Tt, Tt, Tt, Tt, Tt, Ff, Ff] ?_
     refine pZ (i := 32) (N := some 35) #[Tt, Tt, Tt, Tt, Tt, Tt, Tt, Tt, Tt, Tt, Tt, Tt, Tt, Tt, Tt, Tt, Tt, Tt, Tt, Tt, Tt, Tt, Tt, Tt, Tt, Tt, Tt, Tt, Tt, Tt, Tt, Tt, Tt, Ff] ?_
     refine pZ (i := 33) (N := some 2) #[Tt, Tt, Tt, Tt, Tt, Tt, Tt, Tt, Tt, Tt, Tt, Tt, Tt, Tt, Tt, Tt, Tt, Tt, Tt, Tt, Tt, Tt, Tt, Tt, Tt, Tt, Tt, Tt, Tt, Tt, Tt, Tt, Tt, Tt] ?_
     refine done_ (done_of HT_.out (by kernel_rfl)) ?_
     try go_wp2
     go_ret
     exact ⟨er_, bl1_ HB.out GE217.out⟩
   ·replace c7 := Bool.eq_false_iff.mpr c7
    subst c7
    have H1 : (some false) = some r := by rw [if_neg (show ¬ (false = true) by decide)] at H; exact H
    clear H
    have H := H1
    clear H1
    obtain rfl := Option.some.inj H
    go_enter Tryd.func48, Tryd.ntmps48
    try go_wp2_with (first | ((with_reducible refine gate_dst (N := 1) rfl ?_); refine boxE_ (N := 1) (cs := #[.int .i64 a0_0, .int .i64 a0_1, .slice A0_2 l0_2.length c0_2, .slice A0_3 l0_3.length c0_3]) (t := 26) ?_; intro gb217 hg w28 hbox hb; have n0_ := Aside0.mk (below_step (bl0_ HB.out) hb); have n1_ := Aside0.mk (hbox); have n2_ := Aside0.mk ((bs0_ hg HB.out : w.heap.size ≤ gb217)); have n3_ := Aside0.mk ((bs0_ hg HB.out : w.heap.size ≤ gb217)); clear HB; have HB := n0_; have BK217 := n1_; have GW217 := n2_; have GE217 := n3_; clear n0_ n1_ n2_ n3_; clear hb hbox hg))
    have n0_ := Aside0.mk (blk_drew BK217.out)
    have n1_ := Aside0.mk (below_drew1 HB.out)
    clear BK217
    clear HB
    have BK217 := n0_
    have HB := n1_
    clear n0_ n1_
    refine start_ (n := 34) (S := fun w' => w'.cell? ⟨gb217, 0, none⟩ = some (.int .i64 a0_0) ∧ w'.cell? ⟨gb217, 1, none⟩ = some (.int .i64 a0_1) ∧ w'.cell? ⟨gb217, 2, none⟩ = some (.slice A0_2 l0_2.length c0_2) ∧ w'.cell? ⟨gb217, 3, none⟩ = some (.slice A0_3 l0_3.length c0_3)) (ds := []) #[Ff, Ff, Ff, Ff, Ff, Ff, Ff, Ff, Ff, Ff, Ff, Ff, Ff, Ff, Ff, Ff, Ff, Ff, Ff, Ff, Ff, Ff, Ff, Ff, Ff, Ff, Ff, Ff, Ff, Ff, Ff, Ff, Ff, Ff] (by kernel_rfl) rfl rfl ⟨(blk_cell BK217.out 0).trans rfl, (blk_cell BK217.out 1).trans rfl, (blk_cell BK217.out 2).trans rfl, (blk_cell BK217.out 3).trans rfl⟩ (fun hHeld => ?_); refine with_tabW impl_IsFigure.tab1 impl_IsFigure.bits1 (fun HT_ HW_ => ?_)
    generalize w28.drew = w29 at BK217 HB hHeld ⊢
    refine pZ (i := 0) (N := some 3) #[Tt, Ff, Ff, Ff, Ff, Ff, Ff, Ff, Ff, Ff, Ff, Ff, Ff, Ff, Ff, Ff, Ff, Ff, Ff, Ff, Ff, Ff, Ff, Ff, Ff, Ff, Ff, Ff, Ff, Ff, Ff, Ff, Ff, Ff] ?_
    refine pZ (i := 2) (N := some 5) #[Tt, Ff, Tt, Ff, Ff, Ff, Ff, Ff, Ff, Ff, Ff, Ff, Ff, Ff, Ff, Ff, Ff, Ff, Ff, Ff, Ff, Ff, Ff, Ff, Ff, Ff, Ff, Ff, Ff, Ff, Ff, Ff, Ff, Ff] ?_
    refine tZ (i := 1) (N := some 4) #[Tt, Tt, Tt, Ff, Ff, Ff, Ff, Ff, Ff, Ff, Ff, Ff, Ff, Ff, Ff, Ff, Ff, Ff, Ff, Ff, Ff, Ff, Ff, Ff, Ff, Ff, Ff, Ff, Ff, Ff, Ff, Ff, Ff, Ff] ?_
    refine tZ (i := 3) (N := some 6) #[Tt, Tt, Tt, Tt, Ff, Ff, Ff, Ff, Ff, Ff, Ff, Ff, Ff, Ff, Ff, Ff, Ff, Ff, Ff, Ff, Ff, Ff, Ff, Ff, Ff, Ff, Ff, Ff, Ff, Ff, Ff, Ff, Ff, Ff] ?_
    refine one_ (i := 4) (N := some 7) #[Tt, Tt, Tt, Tt, Tt, Ff, Ff, Ff, Ff, Ff, Ff, Ff, Ff, Ff, Ff, Ff, Ff, Ff, Ff, Ff, Ff, Ff, Ff, Ff, Ff, Ff, Ff, Ff, Ff, Ff, Ff, Ff, Ff, Ff] rfl rfl (one_of HT_.out (by kernel_rfl)) (by decide) (fun K hK => ?_)
    refine goes_ Tryd.func75 (by kernel_rfl) rfl #[.int .i64 a0_0, .int .i64 a0_1] (by rfl) rfl rfl ob_ ?_
    with_reducible refine (impl_isGrid.calls a0_0 a0_1 true _ A2.out).mono ?_
    rintro e w' ⟨rfl, ⟨nd, rfl⟩⟩
    refine ⟨_, rfl, ?_⟩
    refine hK.out _ _ ⟨(blk_cell BK217.out 0).trans rfl, (blk_cell BK217.out 1).trans rfl, (blk_cell BK217.out 2).trans rfl, (blk_cell BK217.out 3).trans rfl⟩ (fun hHeld => ?_)
    clear hK K
    refine norm_ (a' := _) ap_ ?_
    refine pZ (i := 5) (N := some 8) #[Tt, Tt, Tt, Tt, Tt, Tt, Ff, Ff, Ff, Ff, Ff, Ff, Ff, Ff, Ff, Ff, Ff, Ff, Ff, Ff, Ff, Ff, Ff, Ff, Ff, Ff, Ff, Ff, Ff, Ff, Ff, Ff, Ff, Ff] ?_
    refine pZ (i := 6) (N := some 9) #[Tt, Tt, Tt, Tt, Tt, Tt, Tt, Ff, Ff, Ff, Ff, Ff, Ff, Ff, Ff, Ff, Ff, Ff, Ff, Ff, Ff, Ff, Ff, Ff, Ff, Ff, Ff, Ff, Ff, Ff, Ff, Ff, Ff, Ff] ?_
    refine tZ (i := 7) (N := some 10) #[Tt, Tt, Tt, Tt, Tt, Tt, Tt, Tt, Ff, Ff, Ff, Ff, Ff, Ff, Ff, Ff, Ff, Ff, Ff, Ff, Ff, Ff, Ff, Ff, Ff, Ff, Ff, Ff, Ff, Ff, Ff, Ff, Ff, Ff] ?_
    refine one_ (i := 8) (N := some 11) #[Tt, Tt, Tt, Tt, Tt, Tt, Tt, Tt, Tt, Ff, Ff, Ff, Ff, Ff, Ff, Ff, Ff, Ff, Ff, Ff, Ff, Ff, Ff, Ff, Ff, Ff, Ff, Ff, Ff, Ff, Ff, Ff, Ff, Ff] rfl rfl (one_of HT_.out (by kernel_rfl)) (by decide) (fun K hK => ?_)
    refine goes_ Tryd.func76 (by kernel_rfl) rfl #[.slice A0_2 l0_2.length c0_2] (by rfl) rfl rfl ob_ ?_
    with_reducible refine (impl_isRising.calls k _ _ l0_2 true _ ?side1 ?side2 A4.out).mono ?_
    (case side1 => repeat (first | exact (Kd.C_below HR0_2.out (bl1_ HB.out GE217.out)) | (with_reducible refine Kd.C_alloc ?_ _) | (with_reducible refine Kd.C_drewN ?_ _) | (with_reducible refine Kd.C_drew ?_)))
    (case side2 => exact HC0_2.out)
    rintro e w' ⟨rfl, ⟨nd, rfl⟩⟩
    refine ⟨_, rfl, ?_⟩
    refine hK.out _ _ ⟨(blk_cell BK217.out 0).trans rfl, (blk_cell BK217.out 1).trans rfl, (blk_cell BK217.out 2).trans rfl, (blk_cell BK217.out 3).trans rfl⟩ (fun hHeld => ?_)
    clear hK K
    refine norm_ (a' := _) ap_ ?_
    refine pZ (i := 9) (N := some 12) #[Tt, Tt, Tt, Tt, Tt, Tt, Tt, Tt, Tt, Tt, Ff, Ff, Ff, Ff, Ff, Ff, Ff, Ff, Ff, Ff, Ff, Ff, Ff, Ff, Ff, Ff, Ff, Ff, Ff, Ff, Ff, Ff, Ff, Ff] ?_
    refine pZ (i := 10) (N := some 13) #[Tt, Tt, Tt, Tt, Tt, Tt, Tt, Tt, Tt, Tt, Tt, Ff, Ff, Ff, Ff, Ff, Ff, Ff, Ff, Ff, Ff, Ff, Ff, Ff, Ff, Ff, Ff, Ff, Ff, Ff, Ff, Ff, Ff, Ff] ?_
    refine pZ (i := 11) (N := some 14) #[Tt, Tt, Tt, Tt, Tt, Tt, Tt, Tt, Tt, Tt, Tt, Tt, Ff, Ff, Ff, Ff, Ff, Ff, Ff, Ff, Ff, Ff, Ff, Ff, Ff, Ff, Ff, Ff, Ff, Ff, Ff, Ff, Ff, Ff] ?_
    refine tZ (i := 12) (N := some 15) #[Tt, Tt, Tt, Tt, Tt, Tt, Tt, Tt, Tt, Tt, Tt, Tt, Tt, Ff, Ff, Ff, Ff, Ff, Ff, Ff, Ff, Ff, Ff, Ff, Ff, Ff, Ff, Ff, Ff, Ff, Ff, Ff, Ff, Ff] ?_
    refine one_ (i := 13) (N := some 16) #[Tt, Tt, Tt, Tt, Tt, Tt, Tt, Tt, Tt, Tt, Tt, Tt, Tt, Tt, Ff, Ff, Ff, Ff, Ff, Ff, Ff, Ff, Ff, Ff, Ff, Ff, Ff, Ff, Ff, Ff, Ff, Ff, Ff, Ff] rfl rfl (one_of HT_.out (by kernel_rfl)) (by decide) (fun K hK => ?_)
    refine goes_ Tryd.func76 (by kernel_rfl) rfl #[.slice A0_3 l0_3.length c0_3] (by rfl) rfl rfl ob_ ?_
    with_reducible refine (impl_isRising.calls k _ _ l0_3 false _ ?side1 ?side2 A6.out).mono ?_
    (case side1 => repeat (first | exact (Kd.C_below HR0_3.out (bl1_ HB.out GE217.out)) | (with_reducible refine Kd.C_alloc ?_ _) | (with_reducible refine Kd.C_drewN ?_ _) | (with_reducible refine Kd.C_drew ?_)))
    (case side2 => exact HC0_3.out)
    rintro e w' ⟨rfl, ⟨nd, rfl⟩⟩
    refine ⟨_, rfl, ?_⟩
    refine hK.out _ _ ⟨(blk_cell BK217.out 0).trans rfl, (blk_cell BK217.out 1).trans rfl, (blk_cell BK217.out 2).trans rfl, (blk_cell BK217.out 3).trans rfl⟩ (fun hHeld => ?_)
    clear hK K
    refine norm_ (a' := _) ap_ ?_
    refine pZ (i := 14) (N := some 17) #[Tt, Tt, Tt, Tt, Tt, Tt, Tt, Tt, Tt, Tt, Tt, Tt, Tt, Tt, Tt, Ff, Ff, Ff, Ff, Ff, Ff, Ff, Ff, Ff, Ff, Ff, Ff, Ff, Ff, Ff, Ff, Ff, Ff, Ff] ?_
    refine pZ (i := 15) (N := some 18) #[Tt, Tt, Tt, Tt, Tt, Tt, Tt, Tt, Tt, Tt, Tt, Tt, Tt, Tt, Tt, Tt, Ff, Ff, Ff, Ff, Ff, Ff, Ff, Ff, Ff, Ff, Ff, Ff, Ff, Ff, Ff, Ff, Ff, Ff] ?_
    refine pU (i := 16) (N := some 19) #[Tt, Tt, Tt, Tt, Tt, Tt, Tt, Tt, Tt, Tt, Tt, Tt, Tt, Tt, Tt, Tt, Tt, Ff, Ff, Ff, Ff, Ff, Ff, Ff, Ff, Ff, Ff, Ff, Ff, Ff, Ff, Ff, Ff, Ff] ?_
    refine pU (i := 17) (N := some 20) #[Tt, Tt, Tt, Tt, Tt, Tt, Tt, Tt, Tt, Tt, Tt, Tt, Tt, Tt, Tt, Tt, Tt, Tt, Ff, Ff, Ff, Ff, Ff, Ff, Ff, Ff, Ff, Ff, Ff, Ff, Ff, Ff, Ff, Ff] ?_
    refine pU (i := 18) (N := some 21) #[Tt, Tt, Tt, Tt, Tt, Tt, Tt, Tt, Tt, Tt, Tt, Tt, Tt, Tt, Tt, Tt, Tt, Tt, Tt, Ff, Ff, Ff, Ff, Ff, Ff, Ff, Ff, Ff, Ff, Ff, Ff, Ff, Ff, Ff] ?_
    refine pU (i := 19) (N := some 22) #[Tt, Tt, Tt, Tt, Tt, Tt, Tt, Tt, Tt, Tt, Tt, Tt, Tt, Tt, Tt, Tt, Tt, Tt, Tt, Tt, Ff, Ff, Ff, Ff, Ff, Ff, Ff, Ff, Ff, Ff, Ff, Ff, Ff, Ff] ?_
    refine pU (i := 20) (N := some 23) #[Tt, Tt, Tt, Tt, Tt, Tt, Tt, Tt, Tt, Tt, Tt, Tt, Tt, Tt, Tt, Tt, Tt, Tt, Tt, Tt, Tt, Ff, Ff, Ff, Ff, Ff, Ff, Ff, Ff, Ff, Ff, Ff, Ff, Ff] ?_
    refine pU (i := 21) (N := some 24) #[Tt, Tt, Tt, Tt, Tt, Tt, Tt, Tt, Tt, Tt, Tt, Tt, Tt, Tt, Tt, Tt, Tt, Tt, Tt, Tt, Tt, Tt, Ff, Ff, Ff, Ff, Ff, Ff, Ff, Ff, Ff, Ff, Ff, Ff] ?_
    refine pU (i := 22) (N := some 25) #[Tt, Tt, Tt, Tt, Tt, Tt, Tt, Tt, Tt, Tt, Tt, Tt, Tt, Tt, Tt, Tt, Tt, Tt, Tt, Tt, Tt, Tt, Tt, Ff, Ff, Ff, Ff, Ff, Ff, Ff, Ff, Ff, Ff, Ff] ?_
    refine pZ (i := 23) (N := some 26) #[Tt, Tt, Tt, Tt, Tt, Tt, Tt, Tt, Tt, Tt, Tt, Tt, Tt, Tt, Tt, Tt, Tt, Tt, Tt, Tt, Tt, Tt, Tt, Tt, Ff, Ff, Ff, Ff, Ff, Ff, Ff, Ff, Ff, Ff] ?_
    refine pZ (i := 24) (N := some 27) #[Tt, Tt, Tt, Tt, Tt, Tt, Tt, Tt, Tt, Tt, Tt, Tt, Tt, Tt, Tt, Tt, Tt, Tt, Tt, Tt, Tt, Tt, Tt, Tt, Tt, Ff, Ff, Ff, Ff, Ff, Ff, Ff, Ff, Ff] ?_
    refine pU (i := 25) (N := some 28) #[Tt, Tt, Tt, Tt, Tt, Tt, Tt, Tt, Tt, Tt, Tt, Tt, Tt, Tt, Tt, Tt, Tt, Tt, Tt, Tt, Tt, Tt, Tt, Tt, Tt, Tt, Ff, Ff, Ff, Ff, Ff, Ff, Ff, Ff] ?_
    refine pU (i := 26) (N := some 29) #[Tt, Tt, Tt, Tt, Tt, Tt, Tt, Tt, Tt, Tt, Tt, Tt, Tt, Tt, Tt, Tt, Tt, Tt, Tt, Tt, Tt, Tt, Tt, Tt, Tt, Tt, Tt, Ff, Ff, Ff, Ff, Ff, Ff, Ff] ?_
    refine pU (i := 27) (N := some 30) #[Tt, Tt, Tt, Tt, Tt, Tt, Tt, Tt, Tt, Tt, Tt, Tt, Tt, Tt, Tt, Tt, Tt, Tt, Tt, Tt, Tt, Tt, Tt, Tt, Tt, Tt, Tt, Tt, Ff, Ff, Ff, Ff, Ff, Ff] ?_
    refine pU (i := 28) (N := some 31) #[Tt, Tt, Tt, Tt, Tt, Tt, Tt, Tt, Tt, Tt, Tt, Tt, Tt, Tt, Tt, Tt, Tt, Tt, Tt, Tt, Tt, Tt, Tt, Tt, Tt, Tt, Tt, Tt, Tt, Ff, Ff, Ff, Ff, Ff] ?_
    refine pU (i := 29) (N := some 32) #[Tt, Tt, Tt, Tt, Tt, Tt, Tt, Tt, Tt, Tt, Tt, Tt, Tt, Tt, Tt, Tt, Tt, Tt, Tt, Tt, Tt, Tt, Tt, Tt, Tt, Tt, Tt, Tt, Tt, Tt, Ff, Ff, Ff, Ff] ?_
    refine pU (i := 30) (N := some 33) #[Tt, Tt, Tt, Tt, Tt, Tt, Tt, Tt, Tt, Tt, Tt, Tt, Tt, Tt, Tt, Tt, Tt, Tt, Tt, Tt, Tt, Tt, Tt, Tt, Tt, Tt, Tt, Tt, Tt, Tt, Tt, Ff, Ff, Ff] ?_
    refine pU (i := 31) (N := some 34) #[Tt, Tt, Tt, Tt, Tt, Tt, Tt, Tt, Tt, Tt, Tt, Tt, Tt, Tt, Tt, Tt, Tt, Tt, Tt, Tt, Tt, Tt, Tt, Tt, Tt, Tt, Tt, Tt, Tt, Tt, Tt, Tt, Ff, Ff] ?_
    refine pZ (i := 32) (N := some 35) #[Tt, Tt, Tt, Tt, Tt, Tt, Tt, Tt, Tt, Tt, Tt, Tt, Tt, Tt, Tt, Tt, Tt, Tt, Tt, Tt, Tt, Tt, Tt, Tt, Tt, Tt, Tt, Tt, Tt, Tt, Tt, Tt, Tt, Ff] ?_
    refine pZ (i := 33) (N := some 2) #[Tt, Tt, Tt, Tt, Tt, Tt, Tt, Tt, Tt, Tt, Tt, Tt, Tt, Tt, Tt, Tt, Tt, Tt, Tt, Tt, Tt, Tt, Tt, Tt, Tt, Tt, Tt, Tt, Tt, Tt, Tt, Tt, Tt, Tt] ?_
    refine done_ (done_of HT_.out (by kernel_rfl)) ?_
    try go_wp2
    go_ret
    exact ⟨er_, bl1_ HB.out GE217.out⟩
  ·replace c5 := Bool.eq_false_iff.mpr c5
   subst c5
   have H1 : (some false) = some r := by rw [if_neg (show ¬ (false = true) by decide)] at H; exact H
   clear H
   have H := H1
   clear H1
   obtain rfl := Option.some.inj H
   go_enter Tryd.func48, Tryd.ntmps48
   try go_wp2_with (first | ((with_reducible refine gate_dst (N := 1) rfl ?_); refine boxE_ (N := 1) (cs := #[.int .i64 a0_0, .int .i64 a0_1, .slice A0_2 l0_2.length c0_2, .slice A0_3 l0_3.length c0_3]) (t := 26) ?_; intro gb217 hg w30 hbox hb; have n0_ := Aside0.mk (below_step (bl0_ HB.out) hb); have n1_ := Aside0.mk (hbox); have n2_ := Aside0.mk ((bs0_ hg HB.out : w.heap.size ≤ gb217)); have n3_ := Aside0.mk ((bs0_ hg HB.out : w.heap.size ≤ gb217)); clear HB; have HB := n0_; have BK217 := n1_; have GW217 := n2_; have GE217 := n3_; clear n0_ n1_ n2_ n3_; clear hb hbox hg))
   have n0_ := Aside0.mk (blk_drew BK217.out)
   have n1_ := Aside0.mk (below_drew1 HB.out)
   clear BK217
   clear HB
   have BK217 := n0_
   have HB := n1_
   clear n0_ n1_
   refine start_ (n := 34) (S := fun w' => w'.cell? ⟨gb217, 0, none⟩ = some (.int .i64 a0_0) ∧ w'.cell? ⟨gb217, 1, none⟩ = some (.int .i64 a0_1) ∧ w'.cell? ⟨gb217, 2, none⟩ = some (.slice A0_2 l0_2.length c0_2) ∧ w'.cell? ⟨gb217, 3, none⟩ = some (.slice A0_3 l0_3.length c0_3)) (ds := []) #[Ff, Ff, Ff, Ff, Ff, Ff, Ff, Ff, Ff, Ff, Ff, Ff, Ff, Ff, Ff, Ff, Ff, Ff, Ff, Ff, Ff, Ff, Ff, Ff, Ff, Ff, Ff, Ff, Ff, Ff, Ff, Ff, Ff, Ff] (by kernel_rfl) rfl rfl ⟨(blk_cell BK217.out 0).trans rfl, (blk_cell BK217.out 1).trans rfl, (blk_cell BK217.out 2).trans rfl, (blk_cell BK217.out 3).trans rfl⟩ (fun hHeld => ?_); refine with_tabW impl_IsFigure.tab1 impl_IsFigure.bits1 (fun HT_ HW_ => ?_)
   generalize w30.drew = w31 at BK217 HB hHeld ⊢
   refine pZ (i := 0) (N := some 3) #[Tt, Ff, Ff, Ff, Ff, Ff, Ff, Ff, Ff, Ff, Ff, Ff, Ff, Ff, Ff, Ff, Ff, Ff, Ff, Ff, Ff, Ff, Ff, Ff, Ff, Ff, Ff, Ff, Ff, Ff, Ff, Ff, Ff, Ff] ?_
   refine pZ (i := 2) (N := some 5) #[Tt, Ff, Tt, Ff, Ff, Ff, Ff, Ff, Ff, Ff, Ff, Ff, Ff, Ff, Ff, Ff, Ff, Ff, Ff, Ff, Ff, Ff, Ff, Ff, Ff, Ff, Ff, Ff, Ff, Ff, Ff, Ff, Ff, Ff] ?_
   refine tZ (i := 1) (N := some 4) #[Tt, Tt, Tt, Ff, Ff, Ff, Ff, Ff, Ff, Ff, Ff, Ff, Ff, Ff, Ff, Ff, Ff, Ff, Ff, Ff, Ff, Ff, Ff, Ff, Ff, Ff, Ff, Ff, Ff, Ff, Ff, Ff, Ff, Ff] ?_
   refine tZ (i := 3) (N := some 6) #[Tt, Tt, Tt, Tt, Ff, Ff, Ff, Ff, Ff, Ff, Ff, Ff, Ff, Ff, Ff, Ff, Ff, Ff, Ff, Ff, Ff, Ff, Ff, Ff, Ff, Ff, Ff, Ff, Ff, Ff, Ff, Ff, Ff, Ff] ?_
   refine one_ (i := 4) (N := some 7) #[Tt, Tt, Tt, Tt, Tt, Ff, Ff, Ff, Ff, Ff, Ff, Ff, Ff, Ff, Ff, Ff, Ff, Ff, Ff, Ff, Ff, Ff, Ff, Ff, Ff, Ff, Ff, Ff, Ff, Ff, Ff, Ff, Ff, Ff] rfl rfl (one_of HT_.out (by kernel_rfl)) (by decide) (fun K hK => ?_)
   refine goes_ Tryd.func75 (by kernel_rfl) rfl #[.int .i64 a0_0, .int .i64 a0_1] (by rfl) rfl rfl ob_ ?_
   with_reducible refine (impl_isGrid.calls a0_0 a0_1 true _ A2.out).mono ?_
   rintro e w' ⟨rfl, ⟨nd, rfl⟩⟩
   refine ⟨_, rfl, ?_⟩
   refine hK.out _ _ ⟨(blk_cell BK217.out 0).trans rfl, (blk_cell BK217.out 1).trans rfl, (blk_cell BK217.out 2).trans rfl, (blk_cell BK217.out 3).trans rfl⟩ (fun hHeld => ?_)
   clear hK K
   refine norm_ (a' := _) ap_ ?_
   refine pZ (i := 5) (N := some 8) #[Tt, Tt, Tt, Tt, Tt, Tt, Ff, Ff, Ff, Ff, Ff, Ff, Ff, Ff, Ff, Ff, Ff, Ff, Ff, Ff, Ff, Ff, Ff, Ff, Ff, Ff, Ff, Ff, Ff, Ff, Ff, Ff, Ff, Ff] ?_
   refine pZ (i := 6) (N := some 9) #[Tt, Tt, Tt, Tt, Tt, Tt, Tt, Ff, Ff, Ff, Ff, Ff, Ff, Ff, Ff, Ff, Ff, Ff, Ff, Ff, Ff, Ff, Ff, Ff, Ff, Ff, Ff, Ff, Ff, Ff, Ff, Ff, Ff, Ff] ?_
   refine tZ (i := 7) (N := some 10) #[Tt, Tt, Tt, Tt, Tt, Tt, Tt, Tt, Ff, Ff, Ff, Ff, Ff, Ff, Ff, Ff, Ff, Ff, Ff, Ff, Ff, Ff, Ff, Ff, Ff, Ff, Ff, Ff, Ff, Ff, Ff, Ff, Ff, Ff] ?_
   refine one_ (i := 8) (N := some 11) #[Tt, Tt, Tt, Tt, Tt, Tt, Tt, Tt, Tt, Ff, Ff, Ff, Ff, Ff, Ff, Ff, Ff, Ff, Ff, Ff, Ff, Ff, Ff, Ff, Ff, Ff, Ff, Ff, Ff, Ff, Ff, Ff, Ff, Ff] rfl rfl (one_of HT_.out (by kernel_rfl)) (by decide) (fun K hK => ?_)
   refine goes_ Tryd.func76 (by kernel_rfl) rfl #[.slice A0_2 l0_2.length c0_2] (by rfl) rfl rfl ob_ ?_
   with_reducible refine (impl_isRising.calls k _ _ l0_2 false _ ?side1 ?side2 A4.out).mono ?_
   (case side1 => repeat (first | exact (Kd.C_below HR0_2.out (bl1_ HB.out GE217.out)) | (with_reducible refine Kd.C_alloc ?_ _) | (with_reducible refine Kd.C_drewN ?_ _) | (with_reducible refine Kd.C_drew ?_)))
   (case side2 => exact HC0_2.out)
   rintro e w' ⟨rfl, ⟨nd, rfl⟩⟩
   refine ⟨_, rfl, ?_⟩
   refine hK.out _ _ ⟨(blk_cell BK217.out 0).trans rfl, (blk_cell BK217.out 1).trans rfl, (blk_cell BK217.out 2).trans rfl, (blk_cell BK217.out 3).trans rfl⟩ (fun hHeld => ?_)
   clear hK K
   refine norm_ (a' := _) ap_ ?_
   refine pZ (i := 9) (N := some 12) #[Tt, Tt, Tt, Tt, Tt, Tt, Tt, Tt, Tt, Tt, Ff, Ff, Ff, Ff, Ff, Ff, Ff, Ff, Ff, Ff, Ff, Ff, Ff, Ff, Ff, Ff, Ff, Ff, Ff, Ff, Ff, Ff, Ff, Ff] ?_
   refine pZ (i := 10) (N := some 13) #[Tt, Tt, Tt, Tt, Tt, Tt, Tt, Tt, Tt, Tt, Tt, Ff, Ff, Ff, Ff, Ff, Ff, Ff, Ff, Ff, Ff, Ff, Ff, Ff, Ff, Ff, Ff, Ff, Ff, Ff, Ff, Ff, Ff, Ff] ?_
   refine pU (i := 11) (N := some 14) #[Tt, Tt, Tt, Tt, Tt, Tt, Tt, Tt, Tt, Tt, Tt, Tt, Ff, Ff, Ff, Ff, Ff, Ff, Ff, Ff, Ff, Ff, Ff, Ff, Ff, Ff, Ff, Ff, Ff, Ff, Ff, Ff, Ff, Ff] ?_
   refine pU (i := 12) (N := some 15) #[Tt, Tt, Tt, Tt, Tt, Tt, Tt, Tt, Tt, Tt, Tt, Tt, Tt, Ff, Ff, Ff, Ff, Ff, Ff, Ff, Ff, Ff, Ff, Ff, Ff, Ff, Ff, Ff, Ff, Ff, Ff, Ff, Ff, Ff] ?_
   refine pU (i := 13) (N := some 16) #[Tt, Tt, Tt, Tt, Tt, Tt, Tt, Tt, Tt, Tt, Tt, Tt, Tt, Tt, Ff, Ff, Ff, Ff, Ff, Ff, Ff, Ff, Ff, Ff, Ff, Ff, Ff, Ff, Ff, Ff, Ff, Ff, Ff, Ff] ?_
   refine pZ (i := 14) (N := some 17) #[Tt, Tt, Tt, Tt, Tt, Tt, Tt, Tt, Tt, Tt, Tt, Tt, Tt, Tt, Tt, Ff, Ff, Ff, Ff, Ff, Ff, Ff, Ff, Ff, Ff, Ff, Ff, Ff, Ff, Ff, Ff, Ff, Ff, Ff] ?_
   refine pZ (i := 15) (N := some 18) #[Tt, Tt, Tt, Tt, Tt, Tt, Tt, Tt, Tt, Tt, Tt, Tt, Tt, Tt, Tt, Tt, Ff, Ff, Ff, Ff, Ff, Ff, Ff, Ff, Ff, Ff, Ff, Ff, Ff, Ff, Ff, Ff, Ff, Ff] ?_
   refine pU (i := 16) (N := some 19) #[Tt, Tt, Tt, Tt, Tt, Tt, Tt, Tt, Tt, Tt, Tt, Tt, Tt, Tt, Tt, Tt, Tt, Ff, Ff, Ff, Ff, Ff, Ff, Ff, Ff, Ff, Ff, Ff, Ff, Ff, Ff, Ff, Ff, Ff] ?_
   refine pU (i := 17) (N := some 20) #[Tt, Tt, Tt, Tt, Tt, Tt, Tt, Tt, Tt, Tt, Tt, Tt, Tt, Tt, Tt, Tt, Tt, Tt, Ff, Ff, Ff, Ff, Ff, Ff, Ff, Ff, Ff, Ff, Ff, Ff, Ff, Ff, Ff, Ff] ?_
   refine pU (i := 18) (N := some 21) #[Tt, Tt, Tt, Tt, Tt, Tt, Tt, Tt, Tt, Tt, Tt, Tt, Tt, Tt, Tt, Tt, Tt, Tt, Tt, Ff, Ff, Ff, Ff, Ff, Ff, Ff, Ff, Ff, Ff, Ff, Ff, Ff, Ff, Ff] ?_
   refine pU (i := 19) (N := some 22) #[Tt, Tt, Tt, Tt, Tt, Tt, Tt, Tt, Tt, Tt, Tt, Tt, Tt, Tt, Tt, Tt, Tt, Tt, Tt, Tt, Ff, Ff, Ff, Ff, Ff, Ff, Ff, Ff, Ff, Ff, Ff, Ff, Ff, Ff] ?_
   refine pU (i := 20) (N := some 23) #[Tt, Tt, Tt, Tt, Tt, Tt, Tt, Tt, Tt, Tt, Tt, Tt, Tt, Tt, Tt, Tt, Tt, Tt, Tt, Tt, Tt, Ff, Ff, Ff, Ff, Ff, Ff, Ff, Ff, Ff, Ff, Ff, Ff, Ff] ?_
   refine pU (i := 21) (N := some 24) #[Tt, Tt, Tt, Tt, Tt, Tt, Tt, Tt, Tt, Tt, Tt, Tt, Tt, Tt, Tt, Tt, Tt, Tt, Tt, Tt, Tt, Tt, Ff, Ff, Ff, Ff, Ff, Ff, Ff, Ff, Ff, Ff, Ff, Ff] ?_
   refine pU (i := 22) (N := some 25) #[Tt, Tt, Tt, Tt, Tt, Tt, Tt, Tt, Tt, Tt, Tt, Tt, Tt, Tt, Tt, Tt, Tt, Tt, Tt, Tt, Tt, Tt, Tt, Ff, Ff, Ff, Ff, Ff, Ff, Ff, Ff, Ff, Ff, Ff] ?_
   refine pZ (i := 23) (N := some 26) #[Tt, Tt, Tt, Tt, Tt, Tt, Tt, Tt, Tt, Tt, Tt, Tt, Tt, Tt, Tt, Tt, Tt, Tt, Tt, Tt, Tt, Tt, Tt, Tt, Ff, Ff, Ff, Ff, Ff, Ff, Ff, Ff, Ff, Ff] ?_
   refine pZ (i := 24) (N := some 27) #[Tt, Tt, Tt, Tt, Tt, Tt, Tt, Tt, Tt, Tt, Tt, Tt, Tt, Tt, Tt, Tt, Tt, Tt, Tt, Tt, Tt, Tt, Tt, Tt, Tt, Ff, Ff, Ff, Ff, Ff, Ff, Ff, Ff, Ff] ?_
   refine pU (i := 25) (N := some 28) #[Tt, Tt, Tt, Tt, Tt, Tt, Tt, Tt, Tt, Tt, Tt, Tt, Tt, Tt, Tt, Tt, Tt, Tt, Tt, Tt, Tt, Tt, Tt, Tt, Tt, Tt, Ff, Ff, Ff, Ff, Ff, Ff, Ff, Ff] ?_
   refine pU (i := 26) (N := some 29) #[Tt, Tt, Tt, Tt, Tt, Tt, Tt, Tt, Tt, Tt, Tt, Tt, Tt, Tt, Tt, Tt, Tt, Tt, Tt, Tt, Tt, Tt, Tt, Tt, Tt, Tt, Tt, Ff, Ff, Ff, Ff, Ff, Ff, Ff] ?_
   refine pU (i := 27) (N := some 30) #[Tt, Tt, Tt, Tt, Tt, Tt, Tt, Tt, Tt, Tt, Tt, Tt, Tt, Tt, Tt, Tt, Tt, Tt, Tt, Tt, Tt, Tt, Tt, Tt, Tt, Tt, Tt, Tt, Ff, Ff, Ff, Ff, Ff, Ff] ?_
   refine pU (i := 28) (N := some 31) #[Tt, Tt, Tt, Tt, Tt, Tt, Tt, Tt, Tt, Tt, Tt, Tt, Tt, Tt, Tt, Tt, Tt, Tt, Tt, Tt, Tt, Tt, Tt, Tt, Tt, Tt, Tt, Tt, Tt, Ff, Ff, Ff, Ff, Ff] ?_
   refine pU (i := 29) (N := some 32) #[Tt, Tt, Tt, Tt, Tt, Tt, Tt, Tt, Tt, Tt, Tt, Tt, Tt, Tt, Tt, Tt, Tt, Tt, Tt, Tt, Tt, Tt, Tt, Tt, Tt, Tt, Tt, Tt, Tt, Tt, Ff, Ff, Ff, Ff] ?_
   refine pU (i := 30) (N := some 33) #[Tt, Tt, Tt, Tt, Tt, Tt, Tt, Tt, Tt, Tt, Tt, Tt, Tt, Tt, Tt, Tt, Tt, Tt, Tt, Tt, Tt, Tt, Tt, Tt, Tt, Tt, Tt, Tt, Tt, Tt, Tt, Ff, Ff, Ff] ?_
   refine pU (i := 31) (N := some 34) #[Tt, Tt, Tt, Tt, Tt, Tt, Tt, Tt, Tt, Tt, Tt, Tt, Tt, Tt, Tt, Tt, Tt, Tt, Tt, Tt, Tt, Tt, Tt, Tt, Tt, Tt, Tt, Tt, Tt, Tt, Tt, Tt, Ff, Ff] ?_
   refine pZ (i := 32) (N := some 35) #[Tt, Tt, Tt, Tt, Tt, Tt, Tt, Tt, Tt, Tt, Tt, Tt, Tt, Tt, Tt, Tt, Tt, Tt, Tt, Tt, Tt, Tt, Tt, Tt, Tt, Tt, Tt, Tt, Tt, Tt, Tt, Tt, Tt, Ff] ?_
   refine pZ (i := 33) (N := some 2) #[Tt, Tt, Tt, Tt, Tt, Tt, Tt, Tt, Tt, Tt, Tt, Tt, Tt, Tt, Tt, Tt, Tt, Tt, Tt, Tt, Tt, Tt, Tt, Tt, Tt, Tt, Tt, Tt, Tt, Tt, Tt, Tt, Tt, Tt] ?_
   refine done_ (done_of HT_.out (by kernel_rfl)) ?_
   try go_wp2
   go_ret
   exact ⟨er_, bl1_ HB.out GE217.out⟩
 ·replace c3 := Bool.eq_false_iff.mpr c3
  subst c3
  have H1 : (some false) = some r := by rw [if_neg (show ¬ (false = true) by decide)] at H; exact H
  clear H
  have H := H1
  clear H1
  obtain rfl := Option.some.inj H
  go_enter Tryd.func48, Tryd.ntmps48
  try go_wp2_with (first | ((with_reducible refine gate_dst (N := 1) rfl ?_); refine boxE_ (N := 1) (cs := #[.int .i64 a0_0, .int .i64 a0_1, .slice A0_2 l0_2.length c0_2, .slice A0_3 l0_3.length c0_3]) (t := 26) ?_; intro gb217 hg w32 hbox hb; have n0_ := Aside0.mk (below_step (bl0_ HB.out) hb); have n1_ := Aside0.mk (hbox); have n2_ := Aside0.mk ((bs0_ hg HB.out : w.heap.size ≤ gb217)); have n3_ := Aside0.mk ((bs0_ hg HB.out : w.heap.size ≤ gb217)); clear HB; have HB := n0_; have BK217 := n1_; have GW217 := n2_; have GE217 := n3_; clear n0_ n1_ n2_ n3_; clear hb hbox hg))
  have n0_ := Aside0.mk (blk_drew BK217.out)
  have n1_ := Aside0.mk (below_drew1 HB.out)
  clear BK217
  clear HB
  have BK217 := n0_
  have HB := n1_
  clear n0_ n1_
  refine start_ (n := 34) (S := fun w' => w'.cell? ⟨gb217, 0, none⟩ = some (.int .i64 a0_0) ∧ w'.cell? ⟨gb217, 1, none⟩ = some (.int .i64 a0_1) ∧ w'.cell? ⟨gb217, 2, none⟩ = some (.slice A0_2 l0_2.length c0_2) ∧ w'.cell? ⟨gb217, 3, none⟩ = some (.slice A0_3 l0_3.length c0_3)) (ds := []) #[Ff, Ff, Ff, Ff, Ff, Ff, Ff, Ff, Ff, Ff, Ff, Ff, Ff, Ff, Ff, Ff, Ff, Ff, Ff, Ff, Ff, Ff, Ff, Ff, Ff, Ff, Ff, Ff, Ff, Ff, Ff, Ff, Ff, Ff] (by kernel_rfl) rfl rfl ⟨(blk_cell BK217.out 0).trans rfl, (blk_cell BK217.out 1).trans rfl, (blk_cell BK217.out 2).trans rfl, (blk_cell BK217.out 3).trans rfl⟩ (fun hHeld => ?_); refine with_tabW impl_IsFigure.tab1 impl_IsFigure.bits1 (fun HT_ HW_ => ?_)
  generalize w32.drew = w33 at BK217 HB hHeld ⊢
  refine pZ (i := 0) (N := some 3) #[Tt, Ff, Ff, Ff, Ff, Ff, Ff, Ff, Ff, Ff, Ff, Ff, Ff, Ff, Ff, Ff, Ff, Ff, Ff, Ff, Ff, Ff, Ff, Ff, Ff, Ff, Ff, Ff, Ff, Ff, Ff, Ff, Ff, Ff] ?_
  refine pZ (i := 2) (N := some 5) #[Tt, Ff, Tt, Ff, Ff, Ff, Ff, Ff, Ff, Ff, Ff, Ff, Ff, Ff, Ff, Ff, Ff, Ff, Ff, Ff, Ff, Ff, Ff, Ff, Ff, Ff, Ff, Ff, Ff, Ff, Ff, Ff, Ff, Ff] ?_
  refine tZ (i := 1) (N := some 4) #[Tt, Tt, Tt, Ff, Ff, Ff, Ff, Ff, Ff, Ff, Ff, Ff, Ff, Ff, Ff, Ff, Ff, Ff, Ff, Ff, Ff, Ff, Ff, Ff, Ff, Ff, Ff, Ff, Ff, Ff, Ff, Ff, Ff, Ff] ?_
  refine tZ (i := 3) (N := some 6) #[Tt, Tt, Tt, Tt, Ff, Ff, Ff, Ff, Ff, Ff, Ff, Ff, Ff, Ff, Ff, Ff, Ff, Ff, Ff, Ff, Ff, Ff, Ff, Ff, Ff, Ff, Ff, Ff, Ff, Ff, Ff, Ff, Ff, Ff] ?_
  refine one_ (i := 4) (N := some 7) #[Tt, Tt, Tt, Tt, Tt, Ff, Ff, Ff, Ff, Ff, Ff, Ff, Ff, Ff, Ff, Ff, Ff, Ff, Ff, Ff, Ff, Ff, Ff, Ff, Ff, Ff, Ff, Ff, Ff, Ff, Ff, Ff, Ff, Ff] rfl rfl (one_of HT_.out (by kernel_rfl)) (by decide) (fun K hK => ?_)
  refine goes_ Tryd.func75 (by kernel_rfl) rfl #[.int .i64 a0_0, .int .i64 a0_1] (by rfl) rfl rfl ob_ ?_
  with_reducible refine (impl_isGrid.calls a0_0 a0_1 false _ A2.out).mono ?_
  rintro e w' ⟨rfl, ⟨nd, rfl⟩⟩
  refine ⟨_, rfl, ?_⟩
  refine hK.out _ _ ⟨(blk_cell BK217.out 0).trans rfl, (blk_cell BK217.out 1).trans rfl, (blk_cell BK217.out 2).trans rfl, (blk_cell BK217.out 3).trans rfl⟩ (fun hHeld => ?_)
  clear hK K
  refine norm_ (a' := _) ap_ ?_
  refine pZ (i := 5) (N := some 8) #[Tt, Tt, Tt, Tt, Tt, Tt, Ff, Ff, Ff, Ff, Ff, Ff, Ff, Ff, Ff, Ff, Ff, Ff, Ff, Ff, Ff, Ff, Ff, Ff, Ff, Ff, Ff, Ff, Ff, Ff, Ff, Ff, Ff, Ff] ?_
  refine pU (i := 6) (N := some 9) #[Tt, Tt, Tt, Tt, Tt, Tt, Tt, Ff, Ff, Ff, Ff, Ff, Ff, Ff, Ff, Ff, Ff, Ff, Ff, Ff, Ff, Ff, Ff, Ff, Ff, Ff, Ff, Ff, Ff, Ff, Ff, Ff, Ff, Ff] ?_
  refine pU (i := 7) (N := some 10) #[Tt, Tt, Tt, Tt, Tt, Tt, Tt, Tt, Ff, Ff, Ff, Ff, Ff, Ff, Ff, Ff, Ff, Ff, Ff, Ff, Ff, Ff, Ff, Ff, Ff, Ff, Ff, Ff, Ff, Ff, Ff, Ff, Ff, Ff] ?_
  refine pU (i := 8) (N := some 11) #[Tt, Tt, Tt, Tt, Tt, Tt, Tt, Tt, Tt, Ff, Ff, Ff, Ff, Ff, Ff, Ff, Ff, Ff, Ff, Ff, Ff, Ff, Ff, Ff, Ff, Ff, Ff, Ff, Ff, Ff, Ff, Ff, Ff, Ff] ?_
  refine pZ (i := 9) (N := some 12) #[Tt, Tt, Tt, Tt, Tt, Tt, Tt, Tt, Tt, Tt, Ff, Ff, Ff, Ff, Ff, Ff, Ff, Ff, Ff, Ff, Ff, Ff, Ff, Ff, Ff, Ff, Ff, Ff, Ff, Ff, Ff, Ff, Ff, Ff] ?_
  refine pZ (i := 10) (N := some 13) #[Tt, Tt, Tt, Tt, Tt, Tt, Tt, Tt, Tt, Tt, Tt, Ff, Ff, Ff, Ff, Ff, Ff, Ff, Ff, Ff, Ff, Ff, Ff, Ff, Ff, Ff, Ff, Ff, Ff, Ff, Ff, Ff, Ff, Ff] ?_
  refine pU (i := 11) (N := some 14) #[Tt, Tt, Tt, Tt, Tt, Tt, Tt, Tt, Tt, Tt, Tt, Tt, Ff, Ff, Ff, Ff, Ff, Ff, Ff, Ff, Ff, Ff, Ff, Ff, Ff, Ff, Ff, Ff, Ff, Ff, Ff, Ff, Ff, Ff] ?_
  refine pU (i := 12) (N := some 15) #[Tt, Tt, Tt, Tt, Tt, Tt, Tt, Tt, Tt, Tt, Tt, Tt, Tt, Ff, Ff, Ff, Ff, Ff, Ff, Ff, Ff, Ff, Ff, Ff, Ff, Ff, Ff, Ff, Ff, Ff, Ff, Ff, Ff, Ff] ?_
  refine pU (i := 13) (N := some 16) #[Tt, Tt, Tt, Tt, Tt, Tt, Tt, Tt, Tt, Tt, Tt, Tt, Tt, Tt, Ff, Ff, Ff, Ff, Ff, Ff, Ff, Ff, Ff, Ff, Ff, Ff, Ff, Ff, Ff, Ff, Ff, Ff, Ff, Ff] ?_
  refine pZ (i := 14) (N := some 17) #[Tt, Tt, Tt, Tt, Tt, Tt, Tt, Tt, Tt, Tt, Tt, Tt, Tt, Tt, Tt, Ff, Ff, Ff, Ff, Ff, Ff, Ff, Ff, Ff, Ff, Ff, Ff, Ff, Ff, Ff, Ff, Ff, Ff, Ff] ?_
  refine pZ (i := 15) (N := some 18) #[Tt, Tt, Tt, Tt, Tt, Tt, Tt, Tt, Tt, Tt, Tt, Tt, Tt, Tt, Tt, Tt, Ff, Ff, Ff, Ff, Ff, Ff, Ff, Ff, Ff, Ff, Ff, Ff, Ff, Ff, Ff, Ff, Ff, Ff] ?_
  refine pU (i := 16) (N := some 19) #[Tt, Tt, Tt, Tt, Tt, Tt, Tt, Tt, Tt, Tt, Tt, Tt, Tt, Tt, Tt, Tt, Tt, Ff, Ff, Ff, Ff, Ff, Ff, Ff, Ff, Ff, Ff, Ff, Ff, Ff, Ff, Ff, Ff, Ff] ?_
  refine pU (i := 17) (N := some 20) #[Tt, Tt, Tt, Tt, Tt, Tt, Tt, Tt, Tt, Tt, Tt, Tt, Tt, Tt, Tt, Tt, Tt, Tt, Ff, Ff, Ff, Ff, Ff, Ff, Ff, Ff, Ff, Ff, Ff, Ff, Ff, Ff, Ff, Ff] ?_
  refine pU (i := 18) (N := some 21) #[Tt, Tt, Tt, Tt, Tt, Tt, Tt, Tt, Tt, Tt, Tt, Tt, Tt, Tt, Tt, Tt, Tt, Tt, Tt, Ff, Ff, Ff, Ff, Ff, Ff, Ff, Ff, Ff, Ff, Ff, Ff, Ff, Ff, Ff] ?_
  refine pU (i := 19) (N := some 22) #[Tt, Tt, Tt, Tt, Tt, Tt, Tt, Tt, Tt, Tt, Tt, Tt, Tt, Tt, Tt, Tt, Tt, Tt, Tt, Tt, Ff, Ff, Ff, Ff, Ff, Ff, Ff, Ff, Ff, Ff, Ff, Ff, Ff, Ff] ?_
  refine pU (i := 20) (N := some 23) #[Tt, Tt, Tt, Tt, Tt, Tt, Tt, Tt, Tt, Tt, Tt, Tt, Tt, Tt, Tt, Tt, Tt, Tt, Tt, Tt, Tt, Ff, Ff, Ff, Ff, Ff, Ff, Ff, Ff, Ff, Ff, Ff, Ff, Ff] ?_
  refine pU (i := 21) (N := some 24) #[Tt, Tt, Tt, Tt, Tt, Tt, Tt, Tt, Tt, Tt, Tt, Tt, Tt, Tt, Tt, Tt, Tt, Tt, Tt, Tt, Tt, Tt, Ff, Ff, Ff, Ff, Ff, Ff, Ff, Ff, Ff, Ff, Ff, Ff] ?_
  refine pU (i := 22) (N := some 25) #[Tt, Tt, Tt, Tt, Tt, Tt, Tt, Tt, Tt, Tt, Tt, Tt, Tt, Tt, Tt, Tt, Tt, Tt, Tt, Tt, Tt, Tt, Tt, Ff, Ff, Ff, Ff, Ff, Ff, Ff, Ff, Ff, Ff, Ff] ?_
  refine pZ (i := 23) (N := some 26) #[Tt, Tt, Tt, Tt, Tt, Tt, Tt, Tt, Tt, Tt, Tt, Tt, Tt, Tt, Tt, Tt, Tt, Tt, Tt, Tt, Tt, Tt, Tt, Tt, Ff, Ff, Ff, Ff, Ff, Ff, Ff, Ff, Ff, Ff] ?_
  refine pZ (i := 24) (N := some 27) #[Tt, Tt, Tt, Tt, Tt, Tt, Tt, Tt, Tt, Tt, Tt, Tt, Tt, Tt, Tt, Tt, Tt, Tt, Tt, Tt, Tt, Tt, Tt, Tt, Tt, Ff, Ff, Ff, Ff, Ff, Ff, Ff, Ff, Ff] ?_
  refine pU (i := 25) (N := some 28) #[Tt, Tt, Tt, Tt, Tt, Tt, Tt, Tt, Tt, Tt, Tt, Tt, Tt, Tt, Tt, Tt, Tt, Tt, Tt, Tt, Tt, Tt, Tt, Tt, Tt, Tt, Ff, Ff, Ff, Ff, Ff, Ff, Ff, Ff] ?_
  refine pU (i := 26) (N := some 29) #[Tt, Tt, Tt, Tt, Tt, Tt, Tt, Tt, Tt, Tt, Tt, Tt, Tt, Tt, Tt, Tt, Tt, Tt, Tt, Tt, Tt, Tt, Tt, Tt, Tt, Tt, Tt, Ff, Ff, Ff, Ff, Ff, Ff, Ff] ?_
  refine pU (i := 27) (N := some 30) #[Tt, Tt, Tt, Tt, Tt, Tt, Tt, Tt, Tt, Tt, Tt, Tt, Tt, Tt, Tt, Tt, Tt, Tt, Tt, Tt, Tt, Tt, Tt, Tt, Tt, Tt, Tt, Tt, Ff, Ff, Ff, Ff, Ff, Ff] ?_
  refine pU (i := 28) (N := some 31) #[Tt, Tt, Tt, Tt, Tt, Tt, Tt, Tt, Tt, Tt, Tt, Tt, Tt, Tt, Tt, Tt, Tt, Tt, Tt, Tt, Tt, Tt, Tt, Tt, Tt, Tt, Tt, Tt, Tt, Ff, Ff, Ff, Ff, Ff] ?_
  refine pU (i := 29) (N := some 32) #[Tt, Tt, Tt, Tt, Tt, Tt, Tt, Tt, Tt, Tt, Tt, Tt, Tt, Tt, Tt, Tt, Tt, Tt, Tt, Tt, Tt, Tt, Tt, Tt, Tt, Tt, Tt, Tt, Tt, Tt, Ff, Ff, Ff, Ff] ?_
  refine pU (i := 30) (N := some 33) #[Tt, Tt, Tt, Tt, Tt, Tt, Tt, Tt, Tt, Tt, Tt, Tt, Tt, Tt, Tt, Tt, Tt, Tt, Tt, Tt, Tt, Tt, Tt, Tt, Tt, Tt, Tt, Tt, Tt, Tt, Tt, Ff, Ff, Ff] ?_
  refine pU (i := 31) (N := some 34) #[Tt, Tt, Tt, Tt, Tt, Tt, Tt, Tt, Tt, Tt, Tt, Tt, Tt, Tt, Tt, Tt, Tt, Tt, Tt, Tt, Tt, Tt, Tt, Tt, Tt, Tt, Tt, Tt, Tt, Tt, Tt, Tt, Ff, Ff] ?_
  refine pZ (i := 32) (N := some 35) #[Tt, Tt, Tt, Tt, Tt, Tt, Tt, Tt, Tt, Tt, Tt, Tt, Tt, Tt, Tt, Tt, Tt, Tt, Tt, Tt, Tt, Tt, Tt, Tt, Tt, Tt, Tt, Tt, Tt, Tt, Tt, Tt, Tt, Ff] ?_
  refine pZ (i := 33) (N := some 2) #[Tt, Tt, Tt, Tt, Tt, Tt, Tt, Tt, Tt, Tt, Tt, Tt, Tt, Tt, Tt, Tt, Tt, Tt, Tt, Tt, Tt, Tt, Tt, Tt, Tt, Tt, Tt, Tt, Tt, Tt, Tt, Tt, Tt, Tt] ?_
  refine done_ (done_of HT_.out (by kernel_rfl)) ?_
  try go_wp2
  go_ret
  exact ⟨er_, bl1_ HB.out GE217.out⟩

end Go.Proofs.YtjnajeplfgdklaaDoor.P
