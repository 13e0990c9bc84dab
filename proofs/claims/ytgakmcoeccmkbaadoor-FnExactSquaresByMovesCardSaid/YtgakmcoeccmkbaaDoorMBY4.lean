/- For every input the laws FnExactSquaresByTakes and FnExactSquaresByMoves answer true: the program's functions tell what the reference's tell; no condition. (part 4 of the proof; the words of the kit's print tool and the texts of this seat, merged by a program) -/
import Derived.Deep.RegionLaw
import Derived.Laws.Bits64b
import Derived.Lib.TrailingZeros
import Derived.Test.YtgakmcoeccmkbaaDoorMBY3
namespace Go.Proofs.YtgakmcoeccmkbaaDoor.P
open Go.RowKit Go.Proofs.YtgakmcoeccmkbaaDoorW.PrintWords Go.Proofs.YtgakmcoeccmkbaaDoorW.PrintLast Go.Proofs.YtgakmcoeccmkbaaDoorW.PrintMore
attribute [local go_sem] max2_int min2_int max_two min_two max_three min_three max_four min_four   -- for this text's walks alone
set_option linter.unusedVariables false
set_option linter.unusedSimpArgs false

def spec_moThose.l0 : Nat → Int → Bool → List (S76) → List Int → List Int → Int → Int → Option (List Int)
  | 0, _, _, _, _, _, _, _ => none
  | k + 1, x2, x4, x11, x12, x23, x24, x25 => if x25 < x24 then (if 0 ≤ x25 then (if x25 < (x23.length : Int) then ((spec_sqCount.f k x11 (rd x23 x25)).bind fun t151 => (if t151 = x2 then (if x4 = true then ((spec_sqNeeded.f k x11 (rd x23 x25)).bind fun t152 => (if t152 = (rd x23 x25) then (if x12.length < 17592186044416 then (spec_moThose.l0 k x2 x4 x11 (x12 ++ [rd x23 x25]) x23 x24 (wrap64 (x25 + 1))) else (none)) else (spec_moThose.l0 k x2 x4 x11 x12 x23 x24 (wrap64 (x25 + 1))))) else (if x12.length < 17592186044416 then (spec_moThose.l0 k x2 x4 x11 (x12 ++ [rd x23 x25]) x23 x24 (wrap64 (x25 + 1))) else (none))) else (spec_moThose.l0 k x2 x4 x11 x12 x23 x24 (wrap64 (x25 + 1))))) else (none)) else (none)) else (some x12)
def spec_moThose.f (k : Nat) (a0_0 : Int) (a0_1 : Int) (l0_2 : List Int) (l0_3 : List Int) (a1 : Int) (a2 : Int) (a3 : Bool) (a4 : Bool) : Option (List Int) := (spec_sqAll.f k a0_0 a0_1).bind fun t144 => ((spec_moMade.f k a0_0 a0_1 l0_2 l0_3 a1 a3).bind fun t147 => (spec_moThose.l0 k a2 a4 t144 ([] : List Int) t147 (t147.length : Int) 0))
theorem spec_moThose.mono_l : ∀ k, (∀ y0 y1 y2 y3 y4 y5 y6, LeO (spec_moThose.l0 k y0 y1 y2 y3 y4 y5 y6) (spec_moThose.l0 (k + 1) y0 y1 y2 y3 y4 y5 y6))
  | 0 => fun _ _ _ _ _ _ _ r h => by simp [spec_moThose.l0] at h
  | k + 1 => by
    have ih0 := spec_moThose.mono_l k
    · intro y0 y1 y2 y3 y4 y5 y6
      unfold spec_moThose.l0
      repeat' first
      | (with_reducible exact ih0 _ _ _ _ _ _ _)
      | (with_reducible exact spec_moMade.mono _ _ _ _ _ _ _)
      | (with_reducible exact spec_sqAll.mono _ _ _)
      | (with_reducible exact spec_sqCount.mono _ _ _)
      | (with_reducible exact spec_sqNeeded.mono _ _ _)
      | (with_reducible exact LeO.refl _)
      | (with_reducible exact LeO.none _)
      | (with_reducible refine LeO.ite ?_ ?_)
      | (with_reducible refine LeO.bind ?_ (fun _ => ?_))
      | exact ih0 _ _ _ _ _ _ _
      | exact spec_moMade.mono _ _ _ _ _ _ _
      | exact spec_sqAll.mono _ _ _
      | exact spec_sqCount.mono _ _ _
      | exact spec_sqNeeded.mono _ _ _
      | exact LeO.none _
      | refine LeO.ite ?_ ?_
      | refine LeO.bind ?_ (fun _ => ?_)
theorem spec_moThose.mono : ∀ a0 a1 a2 a3 a4 a5 a6 a7 k, LeO (spec_moThose.f k a0 a1 a2 a3 a4 a5 a6 a7) (spec_moThose.f (k + 1) a0 a1 a2 a3 a4 a5 a6 a7) := by
  intro a0 a1 a2 a3 a4 a5 a6 a7 k
  have ih0 := spec_moThose.mono_l k
  unfold spec_moThose.f
  repeat' first
      | (with_reducible exact ih0 _ _ _ _ _ _ _)
      | (with_reducible exact spec_moMade.mono _ _ _ _ _ _ _)
      | (with_reducible exact spec_sqAll.mono _ _ _)
      | (with_reducible exact spec_sqCount.mono _ _ _)
      | (with_reducible exact spec_sqNeeded.mono _ _ _)
      | (with_reducible exact LeO.refl _)
      | (with_reducible exact LeO.none _)
      | (with_reducible refine LeO.ite ?_ ?_)
      | (with_reducible refine LeO.bind ?_ (fun _ => ?_))
      | exact ih0 _ _ _ _ _ _ _
      | exact spec_moMade.mono _ _ _ _ _ _ _
      | exact spec_sqAll.mono _ _ _
      | exact spec_sqCount.mono _ _ _
      | exact spec_sqNeeded.mono _ _ _
      | exact LeO.none _
      | refine LeO.ite ?_ ?_
      | refine LeO.bind ?_ (fun _ => ?_)
set_option maxHeartbeats 8000000 in
set_option maxRecDepth 100000 in
theorem spec_moThose.calls (k : Nat) (a0_0 : Int) (a0_1 : Int) (A0_2 : Option Addr) (c0_2 : Nat) (l0_2 : List Int) (A0_3 : Option Addr) (c0_3 : Nat) (l0_3 : List Int) (a1 : Int) (a2 : Int) (a3 : Bool) (a4 : Bool) (r : List Int) (w : World) (hr0_2 : Kd.C (Kd.int .i64) w A0_2 l0_2.length l0_2) (hc0_2 : l0_2.length ≤ c0_2) (hr0_3 : Kd.C (Kd.int .i64) w A0_3 l0_3.length l0_3) (hc0_3 : l0_3.length ≤ c0_3) (h : spec_moThose.f k a0_0 a0_1 l0_2 l0_3 a1 a2 a3 a4 = some r) :
    Calls Tryd.prog 45 #[.agg #[.int .i64 a0_0, .int .i64 a0_1, .slice A0_2 l0_2.length c0_2, .slice A0_3 l0_3.length c0_3], .int .i64 a1, .int .i64 a2, .bool a3, .bool a4] w fun e w' => ∃ v0_ : Value, e = .returned (v0_) ∧ Kd.R (Kd.int .i64) 3 w' w.heap.size (fun _ => True) v0_ r ∧ Below w.heap.size w w' := by
  have hu28 := Tryd.underlying28
  have HR0_2 := Aside0.mk hr0_2
  have HC0_2 := Aside0.mk hc0_2
  clear hr0_2 hc0_2
  have HR0_3 := Aside0.mk hr0_3
  have HC0_3 := Aside0.mk hc0_3
  clear hr0_3 hc0_3
  have HB := Aside0.mk (Below.refl w.heap.size w)
  have H : ((spec_sqAll.f k a0_0 a0_1).bind fun t144 => ((spec_moMade.f k a0_0 a0_1 l0_2 l0_3 a1 a3).bind fun t147 => (spec_moThose.l0 k a2 a4 t144 ([] : List Int) t147 (t147.length : Int) 0))) = some r := h
  clear h
  replace H := Option.bind_eq_some_iff.mp H
  obtain ⟨t144, A60, H⟩ := H
  replace H : ((spec_moMade.f k a0_0 a0_1 l0_2 l0_3 a1 a3).bind fun t147 => (spec_moThose.l0 k a2 a4 t144 ([] : List Int) t147 (t147.length : Int) 0)) = some r := H
  have A6 := Aside0.mk A60
  clear A60
  replace H := Option.bind_eq_some_iff.mp H
  obtain ⟨t147, A70, H⟩ := H
  replace H : (spec_moThose.l0 k a2 a4 t144 ([] : List Int) t147 (t147.length : Int) 0) = some r := H
  have A7 := Aside0.mk A70
  clear A70
  have H' := Aside0.mk H
  clear H
  go_enter Tryd.func45, Tryd.ntmps45
  go_wp2_with (first | ((with_reducible refine gate_dst (N := 5) rfl ?_); refine box_event ?hg (N := 5) ?hd (cs := #[.int .i64 a0_0, .int .i64 a0_1, .slice A0_2 l0_2.length c0_2, .slice A0_3 l0_3.length c0_3]) (t := 28) ?hr ?_; (case hd => rfl); (case hg => rfl); (case hr => first | (go_simp; done) | (go_simp; rfl)); intro gb143 hg w8 hbox hb; have n0_ := Aside0.mk (below_step (by repeat (first | (with_reducible first | exact HB.out | apply below_alloc | apply pw_below_drewN | apply below_drew1) | exact HB.out)) hb); have n1_ := Aside0.mk (hbox); have n2_ := Aside0.mk ((by rw [hg]; exact (below_size (by repeat (first | (with_reducible first | exact HB.out | apply below_alloc | apply pw_below_drewN | apply below_drew1) | exact HB.out))) : w.heap.size ≤ gb143)); have n3_ := Aside0.mk ((by rw [hg]; exact (below_size (by repeat (first | (with_reducible first | exact HB.out | apply below_alloc | apply pw_below_drewN | apply below_drew1) | exact HB.out))) : w.heap.size ≤ gb143)); clear HB; have HB := n0_; have BK143 := n1_; have GW143 := n2_; have GE143 := n3_; clear n0_ n1_ n2_ n3_; clear hb hbox hg; have hcz9_0 : w8.cell? ⟨gb143, 0, none⟩ = some (.int .i64 a0_0) := (blk_cell BK143.out 0).trans rfl; have hcz9_1 : w8.cell? ⟨gb143, 1, none⟩ = some (.int .i64 a0_1) := (blk_cell BK143.out 1).trans rfl; have hcz9_2 : w8.cell? ⟨gb143, 2, none⟩ = some (.slice A0_2 l0_2.length c0_2) := (blk_cell BK143.out 2).trans rfl; have hcz9_3 : w8.cell? ⟨gb143, 3, none⟩ = some (.slice A0_3 l0_3.length c0_3) := (blk_cell BK143.out 3).trans rfl; have hfz9_0 := blk_frozen BK143.out 0; have hfz9_1 := blk_frozen BK143.out 1; have hfz9_2 := blk_frozen BK143.out 2; have hfz9_3 := blk_frozen BK143.out 3) | ((with_reducible refine gate_callee (f := 51) rfl ?_); refine goesL_ (some 19) rfl rfl Tryd.func51 (by kernel_rfl) rfl #[.int .i64 a0_0, .int .i64 a0_1] rfl (by (try simp only [List.map_toArray, List.map_cons, List.map_nil]); first | done | rfl | (simp only [List.length_drop, List.length_take]; rfl)) ?_; (with_reducible refine (spec_sqAll.calls k a0_0 a0_1 t144 _ A6.out).mono ?_); rintro e w10 ⟨v145, rfl, ho0, hb⟩; refine ⟨_, rfl, ?_⟩; have n0_ := Aside0.mk (Kd.R_lower ho0 (below_size (by repeat (first | (with_reducible first | exact HB.out | apply below_alloc | apply pw_below_drewN | apply below_drew1 | refine below_set ?_ GE143.out) | exact HB.out)))); have n1_ := Aside0.mk (blk_below (g := gb143) (o := .cells #[.int .i64 a0_0, .int .i64 a0_1, .slice A0_2 l0_2.length c0_2, .slice A0_3 l0_3.length c0_3] 28 (0, 0)) (by (with_reducible repeat (first | refine blk_drewN ?_ _ | refine blk_drew ?_ | refine blk_alloc ?_ _)); exact BK143.out) hb); have n2_ := Aside0.mk (below_step (by repeat (first | (with_reducible first | exact HB.out | apply below_alloc | apply pw_below_drewN | apply below_drew1 | refine below_set ?_ GE143.out) | exact HB.out)) hb); clear BK143; clear HB; have HO146 := n0_; have BK143 := n1_; have HB := n2_; clear n0_ n1_ n2_; (try clear hb); (try clear hb2); (try clear hk); (try clear hi); (try clear ho0); have hcz11_0 : w10.cell? ⟨gb143, 0, none⟩ = some (.int .i64 a0_0) := (blk_cell BK143.out 0).trans rfl; have hcz11_1 : w10.cell? ⟨gb143, 1, none⟩ = some (.int .i64 a0_1) := (blk_cell BK143.out 1).trans rfl; have hcz11_2 : w10.cell? ⟨gb143, 2, none⟩ = some (.slice A0_2 l0_2.length c0_2) := (blk_cell BK143.out 2).trans rfl; have hcz11_3 : w10.cell? ⟨gb143, 3, none⟩ = some (.slice A0_3 l0_3.length c0_3) := (blk_cell BK143.out 3).trans rfl; have hfz11_0 := blk_frozen BK143.out 0; have hfz11_1 := blk_frozen BK143.out 1; have hfz11_2 := blk_frozen BK143.out 2; have hfz11_3 := blk_frozen BK143.out 3) | ((with_reducible refine gate_callee (f := 52) rfl ?_); refine goesL_ (some 23) rfl rfl Tryd.func52 (by kernel_rfl) rfl #[.agg #[.int .i64 a0_0, .int .i64 a0_1, .slice A0_2 l0_2.length c0_2, .slice A0_3 l0_3.length c0_3], .int .i64 a1, .bool a3] rfl (by (try simp only [List.map_toArray, List.map_cons, List.map_nil]); first | done | rfl | (simp only [List.length_drop, List.length_take]; rfl)) ?_; (with_reducible refine (spec_moMade.calls k a0_0 a0_1 _ _ l0_2 _ _ l0_3 a1 a3 t147 _ ?side1 ?side2 ?side3 ?side4 A7.out).mono ?_); (case side1 => repeat (first | exact (Kd.C_below HR0_2.out HB.out) | (with_reducible refine Kd.C_alloc ?_ _) | (with_reducible refine Kd.C_drewN ?_ _) | (with_reducible refine Kd.C_drew ?_))); (case side2 => exact HC0_2.out); (case side3 => repeat (first | exact (Kd.C_below HR0_3.out HB.out) | (with_reducible refine Kd.C_alloc ?_ _) | (with_reducible refine Kd.C_drewN ?_ _) | (with_reducible refine Kd.C_drew ?_))); (case side4 => exact HC0_3.out); rintro e w12 ⟨v148, rfl, ho0, hb⟩; refine ⟨_, rfl, ?_⟩; have n0_ := Aside0.mk (Kd.R_below (by (with_reducible repeat (first | apply Kd.R_alloc | apply Kd.R_drewN | apply Kd.R_drew)); exact HO146.out) hb); have n1_ := Aside0.mk (Kd.R_lower ho0 (below_size (by repeat (first | (with_reducible first | exact HB.out | apply below_alloc | apply pw_below_drewN | apply below_drew1 | refine below_set ?_ GE143.out) | exact HB.out)))); have n2_ := Aside0.mk (blk_below (g := gb143) (o := .cells #[.int .i64 a0_0, .int .i64 a0_1, .slice A0_2 l0_2.length c0_2, .slice A0_3 l0_3.length c0_3] 28 (0, 0)) (by (with_reducible repeat (first | refine blk_drewN ?_ _ | refine blk_drew ?_ | refine blk_alloc ?_ _)); exact BK143.out) hb); have n3_ := Aside0.mk (below_step (by repeat (first | (with_reducible first | exact HB.out | apply below_alloc | apply pw_below_drewN | apply below_drew1 | refine below_set ?_ GE143.out) | exact HB.out)) hb); clear HO146; clear BK143; clear HB; have HO146 := n0_; have HO149 := n1_; have BK143 := n2_; have HB := n3_; clear n0_ n1_ n2_ n3_; (try clear hb); (try clear hb2); (try clear hk); (try clear hi); (try clear ho0); obtain ⟨Ao13, co13, eo13⟩ := Kd.R_slice HO149.out; subst eo13))
  go_loopg [12, 25] k (fun kq v12 v25 w' => ∃ (x12_1 : List Int) (x25_1 : Int), v25 = .int .i64 x25_1 ∧ Aside0 (spec_moThose.l0 kq a2 a4 t144 x12_1 t147 (t147.length : Int) x25_1 = some r) ∧ Aside0 (kq ≤ k) ∧ Aside0 (Kd.R k76 76 w' w.heap.size (fun _ => True) v145 t144) ∧ Aside0 (Kd.R (Kd.int .i64) 3 w' w.heap.size (fun k_ => some k_ ≠ ((.slice Ao13 t147.length co13) : Value).ownBlock) v12 x12_1) ∧ Aside0 (Kd.R (Kd.int .i64) 3 w' w.heap.size (fun k_ => some k_ ≠ (v12 : Value).ownBlock) (.slice Ao13 t147.length co13) t147) ∧ Aside0 (w'.heap[gb143]? = some (.cells #[.int .i64 a0_0, .int .i64 a0_1, (.slice A0_2 l0_2.length c0_2), (.slice A0_3 l0_3.length c0_3)] 28 (0, 0))) ∧ Aside0 (Below w.heap.size w w'))
  case atStart => exact ⟨(([] : List Int)), (0), (by first | rfl | (simp; done) | (simp [*]; done)), H', ⟨Nat.le_refl _⟩, ⟨by (with_reducible repeat (first | apply Kd.R_alloc | apply Kd.R_drewN | apply Kd.R_drew)); exact HO146.out⟩, ⟨by first | exact Kd.R_nil _ _ _ _ _ | exact Kd.N_nil _ _ _ _ _ | exact Kd.V_nil _ _ _ _ _ | exact Kd.Q_nil _ _ _ _ _ | exact Kd.S_nil _ _ _ _ _⟩, ⟨by (with_reducible repeat (first | apply Kd.R_alloc | apply Kd.R_drewN | apply Kd.R_drew)); exact Kd.R_mono HO149.out (fun _ hk => (by simp [Value.ownBlock]))⟩, ⟨by (with_reducible repeat (first | refine blk_drewN ?_ _ | refine blk_drew ?_ | refine blk_alloc ?_ _)); exact BK143.out⟩, ⟨by repeat (first | (with_reducible first | exact HB.out | apply below_alloc | apply pw_below_drewN | apply below_drew1 | refine below_set ?_ GE143.out) | exact HB.out)⟩⟩
  case round =>
    clear H'
    try clear p2
    try clear c4
    try clear c5
    try clear hcz11_0
    try clear hcz11_1
    try clear hcz11_2
    try clear hcz11_3
    try clear hcz9_0
    try clear hcz9_1
    try clear hcz9_2
    try clear hcz9_3
    try clear hfz11_0
    try clear hfz11_1
    try clear hfz11_2
    try clear hfz11_3
    try clear hfz9_0
    try clear hfz9_1
    try clear hfz9_2
    try clear hfz9_3
    obtain ⟨x12_1, x25_1, rfl, HA, HK1, HO_11, HO_12, HO_23, BK143, HB⟩ := hrel
    cases gk with
    | zero => exact absurd HA.out (by simp [spec_moThose.l0])
    | succ k1 =>
      have H := HA.out
      clear HA
      simp only [spec_moThose.l0] at H
      by_cases c14 : x25_1 < (t147.length : Int)
      · rw [if_pos c14] at H
        have c14b0 : decide (x25_1 < (t147.length : Int)) = true := decide_eq_true c14
        clear c14
        by_cases c15 : 0 ≤ x25_1
        · rw [if_pos c15] at H
          have c15b0 : decide (0 ≤ x25_1) = true := decide_eq_true c15
          clear c15
          by_cases c16 : x25_1 < (t147.length : Int)
          · rw [if_pos c16] at H
            have c16b0 : decide (x25_1 < (t147.length : Int)) = true := decide_eq_true c16
            clear c16
            replace H := Option.bind_eq_some_iff.mp H
            obtain ⟨t151, A170, H⟩ := H
            replace H : (if t151 = a2 then (if a4 = true then ((spec_sqNeeded.f k1 t144 (rd t147 x25_1)).bind fun t152 => (if t152 = (rd t147 x25_1) then (if x12_1.length < 17592186044416 then (spec_moThose.l0 k1 a2 a4 t144 (x12_1 ++ [rd t147 x25_1]) t147 (t147.length : Int) (wrap64 (x25_1 + 1))) else (none)) else (spec_moThose.l0 k1 a2 a4 t144 x12_1 t147 (t147.length : Int) (wrap64 (x25_1 + 1))))) else (if x12_1.length < 17592186044416 then (spec_moThose.l0 k1 a2 a4 t144 (x12_1 ++ [rd t147 x25_1]) t147 (t147.length : Int) (wrap64 (x25_1 + 1))) else (none))) else (spec_moThose.l0 k1 a2 a4 t144 x12_1 t147 (t147.length : Int) (wrap64 (x25_1 + 1)))) = some r := H
            have A17 := Aside0.mk A170
            clear A170
            by_cases c18 : t151 = a2
            · rw [if_pos c18] at H
              have c18b0 : (t151 == a2) = true := beq_iff_eq.mpr c18
              have c18b1 : (t151 != a2) = false := bne_eq_false_iff_eq.mpr c18
              clear c18
              by_cases c19 : a4 = true
              · subst c19
                have H1 : ((spec_sqNeeded.f k1 t144 (rd t147 x25_1)).bind fun t152 => (if t152 = (rd t147 x25_1) then (if x12_1.length < 17592186044416 then (spec_moThose.l0 k1 a2 true t144 (x12_1 ++ [rd t147 x25_1]) t147 (t147.length : Int) (wrap64 (x25_1 + 1))) else (none)) else (spec_moThose.l0 k1 a2 true t144 x12_1 t147 (t147.length : Int) (wrap64 (x25_1 + 1))))) = some r := by rw [if_pos rfl] at H; exact H
                clear H
                have H := H1
                clear H1
                replace H := Option.bind_eq_some_iff.mp H
                obtain ⟨t152, A200, H⟩ := H
                replace H : (if t152 = (rd t147 x25_1) then (if x12_1.length < 17592186044416 then (spec_moThose.l0 k1 a2 true t144 (x12_1 ++ [rd t147 x25_1]) t147 (t147.length : Int) (wrap64 (x25_1 + 1))) else (none)) else (spec_moThose.l0 k1 a2 true t144 x12_1 t147 (t147.length : Int) (wrap64 (x25_1 + 1)))) = some r := H
                have A20 := Aside0.mk A200
                clear A200
                by_cases c21 : t152 = (rd t147 x25_1)
                · rw [if_pos c21] at H
                  have c21b0 : (t152 == (rd t147 x25_1)) = true := beq_iff_eq.mpr c21
                  have c21b1 : (t152 != (rd t147 x25_1)) = false := bne_eq_false_iff_eq.mpr c21
                  clear c21
                  by_cases c22 : x12_1.length < 17592186044416
                  · rw [if_pos c22] at H
                    have LMc22 := Aside0.mk c22
                    clear c22
                    obtain ⟨y153, hy153⟩ : ∃ y_ : List Int, y_ = (x12_1 ++ [rd t147 x25_1]) := ⟨_, rfl⟩
                    replace H : (spec_moThose.l0 k1 a2 true t144 y153 t147 (t147.length : Int) (wrap64 (x25_1 + 1))) = some r := by first | (rw [hy153]; with_reducible exact H) | (have H2_ := (Option.bind_some _ _).symm.trans H; rw [hy153]; with_reducible exact H2_) | (have H2_ := (Option.bind_some _ _).symm.trans H; with_reducible exact H2_) | with_reducible exact H | (rw [hy153]; exact H) | exact H
                    have Ny153 := Aside0.mk hy153
                    clear hy153
                    have H' := Aside0.mk H
                    clear H
                    have p150 : 0 ≤ (x25_1 : Int) := of_decide_eq_true (by first | (with_reducible assumption) | assumption)
                    have q150 : x25_1 < (t147.length : Int) := of_decide_eq_true (by first | (with_reducible assumption) | assumption)
                    obtain ⟨ad150, e150, hx150_0⟩ := Kd.at_int (Kd.R_reads' HO_23.out).2.2 x25_1 p150 q150
                    cases e150
                    replace p150 := eq_true p150
                    replace q150 := eq_true q150
                    obtain ⟨Ao23, co23, eo23⟩ := Kd.R_slice HO_11.out
                    subst eo23
                    go_wp2_with (first | ((with_reducible refine gate_callee (f := 53) rfl ?_); refine goesL_ (some 31) rfl rfl Tryd.func53 (by kernel_rfl) rfl #[.slice Ao23 t144.length co23, .int .i64 (rd t147 x25_1)] rfl (by (try simp only [List.map_toArray, List.map_cons, List.map_nil]); first | done | rfl | (simp only [List.length_drop, List.length_take]; rfl)) ?_; (with_reducible refine (spec_sqCount.calls k1 _ _ t144 (rd t147 x25_1) t151 _ ?side1 ?side2 A17.out).mono ?_); (case side1 => repeat (first | exact (Kd.R_reads' HO_11.out).2.2 | (with_reducible refine Kd.C_alloc ?_ _) | (with_reducible refine Kd.C_drewN ?_ _) | (with_reducible refine Kd.C_drew ?_))); (case side2 => exact (Kd.R_reads' HO_11.out).2.1); rintro e w24 ⟨rfl, hb⟩; refine ⟨_, rfl, ?_⟩; have n0_ := Aside0.mk (Kd.R_below (by (with_reducible repeat (first | apply Kd.R_alloc | apply Kd.R_drewN | apply Kd.R_drew)); exact HO_11.out) hb); have n1_ := Aside0.mk (Kd.R_below (by (with_reducible repeat (first | apply Kd.R_alloc | apply Kd.R_drewN | apply Kd.R_drew)); exact HO_12.out) hb); have n2_ := Aside0.mk (Kd.R_below (by (with_reducible repeat (first | apply Kd.R_alloc | apply Kd.R_drewN | apply Kd.R_drew)); exact HO_23.out) hb); have n3_ := Aside0.mk (blk_below (g := gb143) (o := .cells #[.int .i64 a0_0, .int .i64 a0_1, .slice A0_2 l0_2.length c0_2, .slice A0_3 l0_3.length c0_3] 28 (0, 0)) (by (with_reducible repeat (first | refine blk_drewN ?_ _ | refine blk_drew ?_ | refine blk_alloc ?_ _)); exact BK143.out) hb); have n4_ := Aside0.mk (below_step (by repeat (first | (with_reducible first | exact HB.out | apply below_alloc | apply pw_below_drewN | apply below_drew1 | refine below_set ?_ GE143.out) | exact HB.out)) hb); clear HO_11; clear HO_12; clear HO_23; clear BK143; clear HB; have HO_11 := n0_; have HO_12 := n1_; have HO_23 := n2_; have BK143 := n3_; have HB := n4_; clear n0_ n1_ n2_ n3_ n4_; (try clear hb); (try clear hb2); (try clear hk); (try clear hi)) | (go_at_call 61; (with_reducible refine (spec_sqNeeded.calls k1 _ _ t144 (rd t147 x25_1) t152 _ ?side1 ?side2 A20.out).mono ?_); (case side1 => repeat (first | exact (Kd.R_reads' HO_11.out).2.2 | (with_reducible refine Kd.C_alloc ?_ _) | (with_reducible refine Kd.C_drewN ?_ _) | (with_reducible refine Kd.C_drew ?_))); (case side2 => exact (Kd.R_reads' HO_11.out).2.1); rintro e w25 ⟨rfl, hb⟩; have n0_ := Aside0.mk (Kd.R_below (by (with_reducible repeat (first | apply Kd.R_alloc | apply Kd.R_drewN | apply Kd.R_drew)); exact HO_11.out) hb); have n1_ := Aside0.mk (Kd.R_below (by (with_reducible repeat (first | apply Kd.R_alloc | apply Kd.R_drewN | apply Kd.R_drew)); exact HO_12.out) hb); have n2_ := Aside0.mk (Kd.R_below (by (with_reducible repeat (first | apply Kd.R_alloc | apply Kd.R_drewN | apply Kd.R_drew)); exact HO_23.out) hb); have n3_ := Aside0.mk (blk_below (g := gb143) (o := .cells #[.int .i64 a0_0, .int .i64 a0_1, .slice A0_2 l0_2.length c0_2, .slice A0_3 l0_3.length c0_3] 28 (0, 0)) (by (with_reducible repeat (first | refine blk_drewN ?_ _ | refine blk_drew ?_ | refine blk_alloc ?_ _)); exact BK143.out) hb); have n4_ := Aside0.mk (below_step (by repeat (first | (with_reducible first | exact HB.out | apply below_alloc | apply pw_below_drewN | apply below_drew1 | refine below_set ?_ GE143.out) | exact HB.out)) hb); clear HO_11; clear HO_12; clear HO_23; clear BK143; clear HB; have HO_11 := n0_; have HO_12 := n1_; have HO_23 := n2_; have BK143 := n3_; have HB := n4_; clear n0_ n1_ n2_ n3_ n4_; (try clear hb); (try clear hb2); (try clear hk); (try clear hi)) | ((with_reducible refine gate_builtin (b := .append) (xs := #[.tmp 45, .tmp 47]) rfl ?_); at_builtin; refine Kd.R_append (Kd.int .i64) (w0 := w) w.heap.size rfl (.tmp 45) (.tmp 47) 22 3 (.int .i64 0) 8 rfl Tryd.underlying22 info3 rfl (by decide) (by omega) u12 x12_1 (rd t147 x25_1) [.int .i64 (rd t147 x25_1)] (fun k_ => some k_ ≠ (.slice (some ad150) t147.length co13 : Value).ownBlock) (fun _ => False) rfl rfl ?aP (fun _ hk => hk.elim) ?aF ?aO ?aB ?aS ?aL ?_; (case aP => exact rfl); (case aB => exact (by repeat (first | (with_reducible first | exact HB.out | apply below_alloc | apply pw_below_drewN | apply below_drew1 | refine below_set ?_ GE143.out) | exact HB.out))); (case aF => exact (fun k_ hk => Kd.fresh' (Kd.R_lt (by (with_reducible repeat (first | apply Kd.R_alloc | apply Kd.R_drewN | apply Kd.R_drew)); exact HO_23.out)) k_ hk)); (case aO => exact (by (with_reducible repeat (first | apply Kd.R_alloc | apply Kd.R_drewN | apply Kd.R_drew)); exact HO_12.out)); (case aS => exact (below_size (by repeat (first | (with_reducible first | exact HB.out | apply below_alloc | apply pw_below_drewN | apply below_drew1 | refine below_set ?_ GE143.out) | exact HB.out)))); (case aL => have := LMc22.out; omega); intro v154 w26 ho hb hg hat; rw [← Ny153.out] at ho; have n0_ := Aside0.mk (Kd.R_over' (by (with_reducible repeat (first | apply Kd.R_alloc | apply Kd.R_drewN | apply Kd.R_drew)); exact HO_11.out) (Kd.R_typed (by (with_reducible repeat (first | apply Kd.R_alloc | apply Kd.R_drewN | apply Kd.R_drew)); exact HO_12.out)) (by decide) hg); have n1_ := Aside0.mk (Kd.R_after (ok := (fun _ => True)) (by (with_reducible repeat (first | apply Kd.R_alloc | apply Kd.R_drewN | apply Kd.R_drew)); exact Kd.R_mono HO_23.out (fun _ hk => ⟨trivial, hk⟩)) hg hat); have n2_ := Aside0.mk (blk_grown (g := gb143) (o := .cells #[.int .i64 a0_0, .int .i64 a0_1, .slice A0_2 l0_2.length c0_2, .slice A0_3 l0_3.length c0_3] 28 (0, 0)) (by (with_reducible repeat (first | refine blk_drewN ?_ _ | refine blk_drew ?_ | refine blk_alloc ?_ _)); exact BK143.out) hg (Kd.R_ne HO_12.out BK143.out (by decide))); have n3_ := Aside0.mk (hb); have n4_ := Aside0.mk (ho); clear HO_11; clear HO_23; clear BK143; clear HB; clear HO_12; have HO_11 := n0_; have HO_23 := n1_; have BK143 := n2_; have HB := n3_; have HO155 := n4_; clear n0_ n1_ n2_ n3_ n4_; clear ho hb hg hat))
                    go_roundg k1
                    case measure => have := HK1.out; omega
                    case rel => exact ⟨(y153), (wrap64 (x25_1 + 1)), (by first | rfl | (simp; done) | (simp [*]; done)), H', ⟨by have := HK1.out; omega⟩, ⟨by (with_reducible repeat (first | apply Kd.R_alloc | apply Kd.R_drewN | apply Kd.R_drew)); exact HO_11.out⟩, ⟨by (with_reducible repeat (first | apply Kd.R_alloc | apply Kd.R_drewN | apply Kd.R_drew)); exact HO155.out⟩, ⟨by (with_reducible repeat (first | apply Kd.R_alloc | apply Kd.R_drewN | apply Kd.R_drew)); exact Kd.R_mono HO_23.out (fun _ hk => hk.2)⟩, ⟨by (with_reducible repeat (first | refine blk_drewN ?_ _ | refine blk_drew ?_ | refine blk_alloc ?_ _)); exact BK143.out⟩, ⟨by repeat (first | (with_reducible first | exact HB.out | apply below_alloc | apply pw_below_drewN | apply below_drew1 | refine below_set ?_ GE143.out) | exact HB.out)⟩⟩
                  · rw [if_neg c22] at H
                    exact absurd H (by simp)
                · rw [if_neg c21] at H
                  have c21b0 : (t152 == (rd t147 x25_1)) = false := beq_eq_false_iff_ne.mpr c21
                  have c21b1 : (t152 != (rd t147 x25_1)) = true := bne_iff_ne.mpr c21
                  have H' := Aside0.mk H
                  clear H
                  have p150 : 0 ≤ (x25_1 : Int) := of_decide_eq_true (by first | (with_reducible assumption) | assumption)
                  have q150 : x25_1 < (t147.length : Int) := of_decide_eq_true (by first | (with_reducible assumption) | assumption)
                  obtain ⟨ad150, e150, hx150_0⟩ := Kd.at_int (Kd.R_reads' HO_23.out).2.2 x25_1 p150 q150
                  cases e150
                  replace p150 := eq_true p150
                  replace q150 := eq_true q150
                  obtain ⟨Ao27, co27, eo27⟩ := Kd.R_slice HO_11.out
                  subst eo27
                  go_wp2_with (first | ((with_reducible refine gate_callee (f := 53) rfl ?_); refine goesL_ (some 31) rfl rfl Tryd.func53 (by kernel_rfl) rfl #[.slice Ao27 t144.length co27, .int .i64 (rd t147 x25_1)] rfl (by (try simp only [List.map_toArray, List.map_cons, List.map_nil]); first | done | rfl | (simp only [List.length_drop, List.length_take]; rfl)) ?_; (with_reducible refine (spec_sqCount.calls k1 _ _ t144 (rd t147 x25_1) t151 _ ?side1 ?side2 A17.out).mono ?_); (case side1 => repeat (first | exact (Kd.R_reads' HO_11.out).2.2 | (with_reducible refine Kd.C_alloc ?_ _) | (with_reducible refine Kd.C_drewN ?_ _) | (with_reducible refine Kd.C_drew ?_))); (case side2 => exact (Kd.R_reads' HO_11.out).2.1); rintro e w28 ⟨rfl, hb⟩; refine ⟨_, rfl, ?_⟩; have n0_ := Aside0.mk (Kd.R_below (by (with_reducible repeat (first | apply Kd.R_alloc | apply Kd.R_drewN | apply Kd.R_drew)); exact HO_11.out) hb); have n1_ := Aside0.mk (Kd.R_below (by (with_reducible repeat (first | apply Kd.R_alloc | apply Kd.R_drewN | apply Kd.R_drew)); exact HO_12.out) hb); have n2_ := Aside0.mk (Kd.R_below (by (with_reducible repeat (first | apply Kd.R_alloc | apply Kd.R_drewN | apply Kd.R_drew)); exact HO_23.out) hb); have n3_ := Aside0.mk (blk_below (g := gb143) (o := .cells #[.int .i64 a0_0, .int .i64 a0_1, .slice A0_2 l0_2.length c0_2, .slice A0_3 l0_3.length c0_3] 28 (0, 0)) (by (with_reducible repeat (first | refine blk_drewN ?_ _ | refine blk_drew ?_ | refine blk_alloc ?_ _)); exact BK143.out) hb); have n4_ := Aside0.mk (below_step (by repeat (first | (with_reducible first | exact HB.out | apply below_alloc | apply pw_below_drewN | apply below_drew1 | refine below_set ?_ GE143.out) | exact HB.out)) hb); clear HO_11; clear HO_12; clear HO_23; clear BK143; clear HB; have HO_11 := n0_; have HO_12 := n1_; have HO_23 := n2_; have BK143 := n3_; have HB := n4_; clear n0_ n1_ n2_ n3_ n4_; (try clear hb); (try clear hb2); (try clear hk); (try clear hi)) | (go_at_call 61; (with_reducible refine (spec_sqNeeded.calls k1 _ _ t144 (rd t147 x25_1) t152 _ ?side1 ?side2 A20.out).mono ?_); (case side1 => repeat (first | exact (Kd.R_reads' HO_11.out).2.2 | (with_reducible refine Kd.C_alloc ?_ _) | (with_reducible refine Kd.C_drewN ?_ _) | (with_reducible refine Kd.C_drew ?_))); (case side2 => exact (Kd.R_reads' HO_11.out).2.1); rintro e w29 ⟨rfl, hb⟩; have n0_ := Aside0.mk (Kd.R_below (by (with_reducible repeat (first | apply Kd.R_alloc | apply Kd.R_drewN | apply Kd.R_drew)); exact HO_11.out) hb); have n1_ := Aside0.mk (Kd.R_below (by (with_reducible repeat (first | apply Kd.R_alloc | apply Kd.R_drewN | apply Kd.R_drew)); exact HO_12.out) hb); have n2_ := Aside0.mk (Kd.R_below (by (with_reducible repeat (first | apply Kd.R_alloc | apply Kd.R_drewN | apply Kd.R_drew)); exact HO_23.out) hb); have n3_ := Aside0.mk (blk_below (g := gb143) (o := .cells #[.int .i64 a0_0, .int .i64 a0_1, .slice A0_2 l0_2.length c0_2, .slice A0_3 l0_3.length c0_3] 28 (0, 0)) (by (with_reducible repeat (first | refine blk_drewN ?_ _ | refine blk_drew ?_ | refine blk_alloc ?_ _)); exact BK143.out) hb); have n4_ := Aside0.mk (below_step (by repeat (first | (with_reducible first | exact HB.out | apply below_alloc | apply pw_below_drewN | apply below_drew1 | refine below_set ?_ GE143.out) | exact HB.out)) hb); clear HO_11; clear HO_12; clear HO_23; clear BK143; clear HB; have HO_11 := n0_; have HO_12 := n1_; have HO_23 := n2_; have BK143 := n3_; have HB := n4_; clear n0_ n1_ n2_ n3_ n4_; (try clear hb); (try clear hb2); (try clear hk); (try clear hi)))
                  go_roundg k1
                  case measure => have := HK1.out; omega
                  case rel => exact ⟨(x12_1), (wrap64 (x25_1 + 1)), (by first | rfl | (simp; done) | (simp [*]; done)), H', ⟨by have := HK1.out; omega⟩, ⟨by (with_reducible repeat (first | apply Kd.R_alloc | apply Kd.R_drewN | apply Kd.R_drew)); exact HO_11.out⟩, ⟨by (with_reducible repeat (first | apply Kd.R_alloc | apply Kd.R_drewN | apply Kd.R_drew)); exact HO_12.out⟩, ⟨by (with_reducible repeat (first | apply Kd.R_alloc | apply Kd.R_drewN | apply Kd.R_drew)); exact HO_23.out⟩, ⟨by (with_reducible repeat (first | refine blk_drewN ?_ _ | refine blk_drew ?_ | refine blk_alloc ?_ _)); exact BK143.out⟩, ⟨by repeat (first | (with_reducible first | exact HB.out | apply below_alloc | apply pw_below_drewN | apply below_drew1 | refine below_set ?_ GE143.out) | exact HB.out)⟩⟩
              · replace c19 := Bool.eq_false_iff.mpr c19
                subst c19
                have H1 : (if x12_1.length < 17592186044416 then (spec_moThose.l0 k1 a2 false t144 (x12_1 ++ [rd t147 x25_1]) t147 (t147.length : Int) (wrap64 (x25_1 + 1))) else (none)) = some r := by rw [if_neg (show ¬ (false = true) by decide)] at H; exact H
                clear H
                have H := H1
                clear H1
                by_cases c30 : x12_1.length < 17592186044416
                · rw [if_pos c30] at H
                  have LMc30 := Aside0.mk c30
                  clear c30
                  obtain ⟨y156, hy156⟩ : ∃ y_ : List Int, y_ = (x12_1 ++ [rd t147 x25_1]) := ⟨_, rfl⟩
                  replace H : (spec_moThose.l0 k1 a2 false t144 y156 t147 (t147.length : Int) (wrap64 (x25_1 + 1))) = some r := by first | (rw [hy156]; with_reducible exact H) | (have H2_ := (Option.bind_some _ _).symm.trans H; rw [hy156]; with_reducible exact H2_) | (have H2_ := (Option.bind_some _ _).symm.trans H; with_reducible exact H2_) | with_reducible exact H | (rw [hy156]; exact H) | exact H
                  have Ny156 := Aside0.mk hy156
                  clear hy156
                  have H' := Aside0.mk H
                  clear H
                  have p150 : 0 ≤ (x25_1 : Int) := of_decide_eq_true (by first | (with_reducible assumption) | assumption)
                  have q150 : x25_1 < (t147.length : Int) := of_decide_eq_true (by first | (with_reducible assumption) | assumption)
                  obtain ⟨ad150, e150, hx150_0⟩ := Kd.at_int (Kd.R_reads' HO_23.out).2.2 x25_1 p150 q150
                  cases e150
                  replace p150 := eq_true p150
                  replace q150 := eq_true q150
                  obtain ⟨Ao31, co31, eo31⟩ := Kd.R_slice HO_11.out
                  subst eo31
                  go_wp2_with (first | ((with_reducible refine gate_callee (f := 53) rfl ?_); refine goesL_ (some 31) rfl rfl Tryd.func53 (by kernel_rfl) rfl #[.slice Ao31 t144.length co31, .int .i64 (rd t147 x25_1)] rfl (by (try simp only [List.map_toArray, List.map_cons, List.map_nil]); first | done | rfl | (simp only [List.length_drop, List.length_take]; rfl)) ?_; (with_reducible refine (spec_sqCount.calls k1 _ _ t144 (rd t147 x25_1) t151 _ ?side1 ?side2 A17.out).mono ?_); (case side1 => repeat (first | exact (Kd.R_reads' HO_11.out).2.2 | (with_reducible refine Kd.C_alloc ?_ _) | (with_reducible refine Kd.C_drewN ?_ _) | (with_reducible refine Kd.C_drew ?_))); (case side2 => exact (Kd.R_reads' HO_11.out).2.1); rintro e w32 ⟨rfl, hb⟩; refine ⟨_, rfl, ?_⟩; have n0_ := Aside0.mk (Kd.R_below (by (with_reducible repeat (first | apply Kd.R_alloc | apply Kd.R_drewN | apply Kd.R_drew)); exact HO_11.out) hb); have n1_ := Aside0.mk (Kd.R_below (by (with_reducible repeat (first | apply Kd.R_alloc | apply Kd.R_drewN | apply Kd.R_drew)); exact HO_12.out) hb); have n2_ := Aside0.mk (Kd.R_below (by (with_reducible repeat (first | apply Kd.R_alloc | apply Kd.R_drewN | apply Kd.R_drew)); exact HO_23.out) hb); have n3_ := Aside0.mk (blk_below (g := gb143) (o := .cells #[.int .i64 a0_0, .int .i64 a0_1, .slice A0_2 l0_2.length c0_2, .slice A0_3 l0_3.length c0_3] 28 (0, 0)) (by (with_reducible repeat (first | refine blk_drewN ?_ _ | refine blk_drew ?_ | refine blk_alloc ?_ _)); exact BK143.out) hb); have n4_ := Aside0.mk (below_step (by repeat (first | (with_reducible first | exact HB.out | apply below_alloc | apply pw_below_drewN | apply below_drew1 | refine below_set ?_ GE143.out) | exact HB.out)) hb); clear HO_11; clear HO_12; clear HO_23; clear BK143; clear HB; have HO_11 := n0_; have HO_12 := n1_; have HO_23 := n2_; have BK143 := n3_; have HB := n4_; clear n0_ n1_ n2_ n3_ n4_; (try clear hb); (try clear hb2); (try clear hk); (try clear hi)) | ((with_reducible refine gate_builtin (b := .append) (xs := #[.tmp 45, .tmp 47]) rfl ?_); at_builtin; refine Kd.R_append (Kd.int .i64) (w0 := w) w.heap.size rfl (.tmp 45) (.tmp 47) 22 3 (.int .i64 0) 8 rfl Tryd.underlying22 info3 rfl (by decide) (by omega) u12 x12_1 (rd t147 x25_1) [.int .i64 (rd t147 x25_1)] (fun k_ => some k_ ≠ (.slice (some ad150) t147.length co13 : Value).ownBlock) (fun _ => False) rfl rfl ?aP (fun _ hk => hk.elim) ?aF ?aO ?aB ?aS ?aL ?_; (case aP => exact rfl); (case aB => exact (by repeat (first | (with_reducible first | exact HB.out | apply below_alloc | apply pw_below_drewN | apply below_drew1 | refine below_set ?_ GE143.out) | exact HB.out))); (case aF => exact (fun k_ hk => Kd.fresh' (Kd.R_lt (by (with_reducible repeat (first | apply Kd.R_alloc | apply Kd.R_drewN | apply Kd.R_drew)); exact HO_23.out)) k_ hk)); (case aO => exact (by (with_reducible repeat (first | apply Kd.R_alloc | apply Kd.R_drewN | apply Kd.R_drew)); exact HO_12.out)); (case aS => exact (below_size (by repeat (first | (with_reducible first | exact HB.out | apply below_alloc | apply pw_below_drewN | apply below_drew1 | refine below_set ?_ GE143.out) | exact HB.out)))); (case aL => have := LMc30.out; omega); intro v157 w33 ho hb hg hat; rw [← Ny156.out] at ho; have n0_ := Aside0.mk (Kd.R_over' (by (with_reducible repeat (first | apply Kd.R_alloc | apply Kd.R_drewN | apply Kd.R_drew)); exact HO_11.out) (Kd.R_typed (by (with_reducible repeat (first | apply Kd.R_alloc | apply Kd.R_drewN | apply Kd.R_drew)); exact HO_12.out)) (by decide) hg); have n1_ := Aside0.mk (Kd.R_after (ok := (fun _ => True)) (by (with_reducible repeat (first | apply Kd.R_alloc | apply Kd.R_drewN | apply Kd.R_drew)); exact Kd.R_mono HO_23.out (fun _ hk => ⟨trivial, hk⟩)) hg hat); have n2_ := Aside0.mk (blk_grown (g := gb143) (o := .cells #[.int .i64 a0_0, .int .i64 a0_1, .slice A0_2 l0_2.length c0_2, .slice A0_3 l0_3.length c0_3] 28 (0, 0)) (by (with_reducible repeat (first | refine blk_drewN ?_ _ | refine blk_drew ?_ | refine blk_alloc ?_ _)); exact BK143.out) hg (Kd.R_ne HO_12.out BK143.out (by decide))); have n3_ := Aside0.mk (hb); have n4_ := Aside0.mk (ho); clear HO_11; clear HO_23; clear BK143; clear HB; clear HO_12; have HO_11 := n0_; have HO_23 := n1_; have BK143 := n2_; have HB := n3_; have HO158 := n4_; clear n0_ n1_ n2_ n3_ n4_; clear ho hb hg hat))
                  go_roundg k1
                  case measure => have := HK1.out; omega
                  case rel => exact ⟨(y156), (wrap64 (x25_1 + 1)), (by first | rfl | (simp; done) | (simp [*]; done)), H', ⟨by have := HK1.out; omega⟩, ⟨by (with_reducible repeat (first | apply Kd.R_alloc | apply Kd.R_drewN | apply Kd.R_drew)); exact HO_11.out⟩, ⟨by (with_reducible repeat (first | apply Kd.R_alloc | apply Kd.R_drewN | apply Kd.R_drew)); exact HO158.out⟩, ⟨by (with_reducible repeat (first | apply Kd.R_alloc | apply Kd.R_drewN | apply Kd.R_drew)); exact Kd.R_mono HO_23.out (fun _ hk => hk.2)⟩, ⟨by (with_reducible repeat (first | refine blk_drewN ?_ _ | refine blk_drew ?_ | refine blk_alloc ?_ _)); exact BK143.out⟩, ⟨by repeat (first | (with_reducible first | exact HB.out | apply below_alloc | apply pw_below_drewN | apply below_drew1 | refine below_set ?_ GE143.out) | exact HB.out)⟩⟩
                · rw [if_neg c30] at H
                  exact absurd H (by simp)
            · rw [if_neg c18] at H
              have c18b0 : (t151 == a2) = false := beq_eq_false_iff_ne.mpr c18
              have c18b1 : (t151 != a2) = true := bne_iff_ne.mpr c18
              have H' := Aside0.mk H
              clear H
              have p150 : 0 ≤ (x25_1 : Int) := of_decide_eq_true (by first | (with_reducible assumption) | assumption)
              have q150 : x25_1 < (t147.length : Int) := of_decide_eq_true (by first | (with_reducible assumption) | assumption)
              obtain ⟨ad150, e150, hx150_0⟩ := Kd.at_int (Kd.R_reads' HO_23.out).2.2 x25_1 p150 q150
              cases e150
              replace p150 := eq_true p150
              replace q150 := eq_true q150
              obtain ⟨Ao34, co34, eo34⟩ := Kd.R_slice HO_11.out
              subst eo34
              go_wp2_with (first | ((with_reducible refine gate_callee (f := 53) rfl ?_); refine goesL_ (some 31) rfl rfl Tryd.func53 (by kernel_rfl) rfl #[.slice Ao34 t144.length co34, .int .i64 (rd t147 x25_1)] rfl (by (try simp only [List.map_toArray, List.map_cons, List.map_nil]); first | done | rfl | (simp only [List.length_drop, List.length_take]; rfl)) ?_; (with_reducible refine (spec_sqCount.calls k1 _ _ t144 (rd t147 x25_1) t151 _ ?side1 ?side2 A17.out).mono ?_); (case side1 => repeat (first | exact (Kd.R_reads' HO_11.out).2.2 | (with_reducible refine Kd.C_alloc ?_ _) | (with_reducible refine Kd.C_drewN ?_ _) | (with_reducible refine Kd.C_drew ?_))); (case side2 => exact (Kd.R_reads' HO_11.out).2.1); rintro e w35 ⟨rfl, hb⟩; refine ⟨_, rfl, ?_⟩; have n0_ := Aside0.mk (Kd.R_below (by (with_reducible repeat (first | apply Kd.R_alloc | apply Kd.R_drewN | apply Kd.R_drew)); exact HO_11.out) hb); have n1_ := Aside0.mk (Kd.R_below (by (with_reducible repeat (first | apply Kd.R_alloc | apply Kd.R_drewN | apply Kd.R_drew)); exact HO_12.out) hb); have n2_ := Aside0.mk (Kd.R_below (by (with_reducible repeat (first | apply Kd.R_alloc | apply Kd.R_drewN | apply Kd.R_drew)); exact HO_23.out) hb); have n3_ := Aside0.mk (blk_below (g := gb143) (o := .cells #[.int .i64 a0_0, .int .i64 a0_1, .slice A0_2 l0_2.length c0_2, .slice A0_3 l0_3.length c0_3] 28 (0, 0)) (by (with_reducible repeat (first | refine blk_drewN ?_ _ | refine blk_drew ?_ | refine blk_alloc ?_ _)); exact BK143.out) hb); have n4_ := Aside0.mk (below_step (by repeat (first | (with_reducible first | exact HB.out | apply below_alloc | apply pw_below_drewN | apply below_drew1 | refine below_set ?_ GE143.out) | exact HB.out)) hb); clear HO_11; clear HO_12; clear HO_23; clear BK143; clear HB; have HO_11 := n0_; have HO_12 := n1_; have HO_23 := n2_; have BK143 := n3_; have HB := n4_; clear n0_ n1_ n2_ n3_ n4_; (try clear hb); (try clear hb2); (try clear hk); (try clear hi)))
              go_roundg k1
              case measure => have := HK1.out; omega
              case rel => exact ⟨(x12_1), (wrap64 (x25_1 + 1)), (by first | rfl | (simp; done) | (simp [*]; done)), H', ⟨by have := HK1.out; omega⟩, ⟨by (with_reducible repeat (first | apply Kd.R_alloc | apply Kd.R_drewN | apply Kd.R_drew)); exact HO_11.out⟩, ⟨by (with_reducible repeat (first | apply Kd.R_alloc | apply Kd.R_drewN | apply Kd.R_drew)); exact HO_12.out⟩, ⟨by (with_reducible repeat (first | apply Kd.R_alloc | apply Kd.R_drewN | apply Kd.R_drew)); exact HO_23.out⟩, ⟨by (with_reducible repeat (first | refine blk_drewN ?_ _ | refine blk_drew ?_ | refine blk_alloc ?_ _)); exact BK143.out⟩, ⟨by repeat (first | (with_reducible first | exact HB.out | apply below_alloc | apply pw_below_drewN | apply below_drew1 | refine below_set ?_ GE143.out) | exact HB.out)⟩⟩
          · rw [if_neg c16] at H
            exact absurd H (by simp)
        · rw [if_neg c15] at H
          exact absurd H (by simp)
      · rw [if_neg c14] at H
        have c14b0 : decide (x25_1 < (t147.length : Int)) = false := decide_eq_false c14
        clear c14
        obtain rfl := Option.some.inj H
        go_wp2
        go_ret
        exact ⟨_, by first | rfl | (simp [errW_none, errW_some] <;> rfl) | (simp [*, errW_none, errW_some] <;> rfl), by (with_reducible repeat (first | apply Kd.R_alloc | apply Kd.R_drewN | apply Kd.R_drew)); exact Kd.R_mono HO_12.out (fun _ hk => trivial), by repeat (first | (with_reducible first | exact HB.out | apply below_alloc | apply pw_below_drewN | apply below_drew1 | refine below_set ?_ GE143.out) | exact HB.out)⟩

end Go.Proofs.YtgakmcoeccmkbaaDoor.P


namespace Go.Proofs.YtgakmcoeccmkbaaDoor.P
open Go.RowKit Go.Proofs.YtgakmcoeccmkbaaDoorW.PrintWords Go.Proofs.YtgakmcoeccmkbaaDoorW.PrintLast Go.Proofs.YtgakmcoeccmkbaaDoorW.PrintMore
attribute [local go_sem] max2_int min2_int max_two min_two max_three min_three max_four min_four   -- for this text's walks alone
set_option linter.unusedVariables false
set_option linter.unusedSimpArgs false

def spec_moCount.f (k : Nat) (a0_0 : Int) (a0_1 : Int) (l0_2 : List Int) (l0_3 : List Int) (a1 : Int) (a2 : Int) (a3 : Bool) (a4 : Bool) : Option (Int × Bool) := (spec_moAsked.f k a0_0 a0_1 l0_2 l0_3 a1 a3).bind fun t160 => (if t160 = true then ((spec_moSquares.f a2).bind fun t161 => (if t161 = true then ((spec_moThose.f k a0_0 a0_1 l0_2 l0_3 a1 a2 a3 a4).bind fun t162 => (some ((t162.length : Int), true))) else (some (0, false)))) else (some (0, false)))
theorem spec_moCount.mono : ∀ a0 a1 a2 a3 a4 a5 a6 a7 k, LeO (spec_moCount.f k a0 a1 a2 a3 a4 a5 a6 a7) (spec_moCount.f (k + 1) a0 a1 a2 a3 a4 a5 a6 a7) := by
  intro a0 a1 a2 a3 a4 a5 a6 a7 k
  unfold spec_moCount.f
  repeat' first
      | (with_reducible exact spec_moAsked.mono _ _ _ _ _ _ _)
      | (with_reducible exact spec_moThose.mono _ _ _ _ _ _ _ _ _)
      | (with_reducible exact LeO.refl _)
      | (with_reducible exact LeO.none _)
      | (with_reducible refine LeO.ite ?_ ?_)
      | (with_reducible refine LeO.bind ?_ (fun _ => ?_))
      | exact spec_moAsked.mono _ _ _ _ _ _ _
      | exact spec_moThose.mono _ _ _ _ _ _ _ _ _
      | exact LeO.none _
      | refine LeO.ite ?_ ?_
      | refine LeO.bind ?_ (fun _ => ?_)
set_option maxHeartbeats 8000000 in
set_option maxRecDepth 100000 in
theorem spec_moCount.calls (k : Nat) (a0_0 : Int) (a0_1 : Int) (A0_2 : Option Addr) (c0_2 : Nat) (l0_2 : List Int) (A0_3 : Option Addr) (c0_3 : Nat) (l0_3 : List Int) (a1 : Int) (a2 : Int) (a3 : Bool) (a4 : Bool) (r1 : Int) (r2 : Bool) (w : World) (hr0_2 : Kd.C (Kd.int .i64) w A0_2 l0_2.length l0_2) (hc0_2 : l0_2.length ≤ c0_2) (hr0_3 : Kd.C (Kd.int .i64) w A0_3 l0_3.length l0_3) (hc0_3 : l0_3.length ≤ c0_3) (h : spec_moCount.f k a0_0 a0_1 l0_2 l0_3 a1 a2 a3 a4 = some (r1, r2)) :
    Calls Tryd.prog 35 #[.agg #[.int .i64 a0_0, .int .i64 a0_1, .slice A0_2 l0_2.length c0_2, .slice A0_3 l0_3.length c0_3], .int .i64 a1, .int .i64 a2, .bool a3, .bool a4] w fun e w' => e = .returned (.tuple #[.int .i64 r1, .bool r2]) ∧ Below w.heap.size w w' := by
  have hu28 := Tryd.underlying28
  have HR0_2 := Aside0.mk hr0_2
  have HC0_2 := Aside0.mk hc0_2
  clear hr0_2 hc0_2
  have HR0_3 := Aside0.mk hr0_3
  have HC0_3 := Aside0.mk hc0_3
  clear hr0_3 hc0_3
  have HB := Aside0.mk (Below.refl w.heap.size w)
  have H : ((spec_moAsked.f k a0_0 a0_1 l0_2 l0_3 a1 a3).bind fun t160 => (if t160 = true then ((spec_moSquares.f a2).bind fun t161 => (if t161 = true then ((spec_moThose.f k a0_0 a0_1 l0_2 l0_3 a1 a2 a3 a4).bind fun t162 => (some ((t162.length : Int), true))) else (some (0, false)))) else (some (0, false)))) = some (r1, r2) := h
  clear h
  replace H := Option.bind_eq_some_iff.mp H
  obtain ⟨t160, A60, H⟩ := H
  replace H : (if t160 = true then ((spec_moSquares.f a2).bind fun t161 => (if t161 = true then ((spec_moThose.f k a0_0 a0_1 l0_2 l0_3 a1 a2 a3 a4).bind fun t162 => (some ((t162.length : Int), true))) else (some (0, false)))) else (some (0, false))) = some (r1, r2) := H
  have A6 := Aside0.mk A60
  clear A60
  by_cases c7 : t160 = true
  · subst c7
    have H1 : ((spec_moSquares.f a2).bind fun t161 => (if t161 = true then ((spec_moThose.f k a0_0 a0_1 l0_2 l0_3 a1 a2 a3 a4).bind fun t162 => (some ((t162.length : Int), true))) else (some (0, false)))) = some (r1, r2) := by rw [if_pos rfl] at H; exact H
    clear H
    have H := H1
    clear H1
    replace H := Option.bind_eq_some_iff.mp H
    obtain ⟨t161, A80, H⟩ := H
    replace H : (if t161 = true then ((spec_moThose.f k a0_0 a0_1 l0_2 l0_3 a1 a2 a3 a4).bind fun t162 => (some ((t162.length : Int), true))) else (some (0, false))) = some (r1, r2) := H
    have A8 := Aside0.mk A80
    clear A80
    by_cases c9 : t161 = true
    · subst c9
      have H1 : ((spec_moThose.f k a0_0 a0_1 l0_2 l0_3 a1 a2 a3 a4).bind fun t162 => (some ((t162.length : Int), true))) = some (r1, r2) := by rw [if_pos rfl] at H; exact H
      clear H
      have H := H1
      clear H1
      replace H := Option.bind_eq_some_iff.mp H
      obtain ⟨t162, A100, H⟩ := H
      replace H : (some ((t162.length : Int), true)) = some (r1, r2) := H
      have A10 := Aside0.mk A100
      clear A100
      simp only [Option.some.injEq, Prod.mk.injEq] at H
      obtain ⟨rfl, rfl⟩ := H
      go_enter Tryd.func35, Tryd.ntmps35
      go_wp2_with (first | ((with_reducible refine gate_dst (N := 5) rfl ?_); refine box_event ?hg (N := 5) ?hd (cs := #[.int .i64 a0_0, .int .i64 a0_1, .slice A0_2 l0_2.length c0_2, .slice A0_3 l0_3.length c0_3]) (t := 28) ?hr ?_; (case hd => rfl); (case hg => rfl); (case hr => first | (go_simp; done) | (go_simp; rfl)); intro gb159 hg w11 hbox hb; have n0_ := Aside0.mk (below_step (by repeat (first | (with_reducible first | exact HB.out | apply below_alloc | apply pw_below_drewN | apply below_drew1) | exact HB.out)) hb); have n1_ := Aside0.mk (hbox); have n2_ := Aside0.mk ((by rw [hg]; exact (below_size (by repeat (first | (with_reducible first | exact HB.out | apply below_alloc | apply pw_below_drewN | apply below_drew1) | exact HB.out))) : w.heap.size ≤ gb159)); have n3_ := Aside0.mk ((by rw [hg]; exact (below_size (by repeat (first | (with_reducible first | exact HB.out | apply below_alloc | apply pw_below_drewN | apply below_drew1) | exact HB.out))) : w.heap.size ≤ gb159)); clear HB; have HB := n0_; have BK159 := n1_; have GW159 := n2_; have GE159 := n3_; clear n0_ n1_ n2_ n3_; clear hb hbox hg; have hcz12_0 : w11.cell? ⟨gb159, 0, none⟩ = some (.int .i64 a0_0) := (blk_cell BK159.out 0).trans rfl; have hcz12_1 : w11.cell? ⟨gb159, 1, none⟩ = some (.int .i64 a0_1) := (blk_cell BK159.out 1).trans rfl; have hcz12_2 : w11.cell? ⟨gb159, 2, none⟩ = some (.slice A0_2 l0_2.length c0_2) := (blk_cell BK159.out 2).trans rfl; have hcz12_3 : w11.cell? ⟨gb159, 3, none⟩ = some (.slice A0_3 l0_3.length c0_3) := (blk_cell BK159.out 3).trans rfl; have hfz12_0 := blk_frozen BK159.out 0; have hfz12_1 := blk_frozen BK159.out 1; have hfz12_2 := blk_frozen BK159.out 2; have hfz12_3 := blk_frozen BK159.out 3) | ((with_reducible refine gate_callee (f := 43) rfl ?_); refine goesL_ (some 15) rfl rfl Tryd.func43 (by kernel_rfl) rfl #[.agg #[.int .i64 a0_0, .int .i64 a0_1, .slice A0_2 l0_2.length c0_2, .slice A0_3 l0_3.length c0_3], .int .i64 a1, .bool a3] rfl (by (try simp only [List.map_toArray, List.map_cons, List.map_nil]); first | done | rfl | (simp only [List.length_drop, List.length_take]; rfl)) ?_; (with_reducible refine (spec_moAsked.calls k a0_0 a0_1 _ _ l0_2 _ _ l0_3 a1 a3 true _ ?side1 ?side2 ?side3 ?side4 A6.out).mono ?_); (case side1 => repeat (first | exact (Kd.C_below HR0_2.out HB.out) | (with_reducible refine Kd.C_alloc ?_ _) | (with_reducible refine Kd.C_drewN ?_ _) | (with_reducible refine Kd.C_drew ?_))); (case side2 => exact HC0_2.out); (case side3 => repeat (first | exact (Kd.C_below HR0_3.out HB.out) | (with_reducible refine Kd.C_alloc ?_ _) | (with_reducible refine Kd.C_drewN ?_ _) | (with_reducible refine Kd.C_drew ?_))); (case side4 => exact HC0_3.out); rintro e w13 ⟨rfl, hb⟩; refine ⟨_, rfl, ?_⟩; have n0_ := Aside0.mk (blk_below (g := gb159) (o := .cells #[.int .i64 a0_0, .int .i64 a0_1, .slice A0_2 l0_2.length c0_2, .slice A0_3 l0_3.length c0_3] 28 (0, 0)) (by (with_reducible repeat (first | refine blk_drewN ?_ _ | refine blk_drew ?_ | refine blk_alloc ?_ _)); exact BK159.out) hb); have n1_ := Aside0.mk (below_step (by repeat (first | (with_reducible first | exact HB.out | apply below_alloc | apply pw_below_drewN | apply below_drew1 | refine below_set ?_ GE159.out) | exact HB.out)) hb); clear BK159; clear HB; have BK159 := n0_; have HB := n1_; clear n0_ n1_; (try clear hb); (try clear hb2); (try clear hk); (try clear hi)) | (go_at_call 44; (with_reducible refine (spec_moSquares.calls a2 true _ A8.out).mono ?_); rintro e w' ⟨rfl, ⟨nd, rfl⟩⟩; have hcz14_0 : w13.cell? ⟨gb159, 0, none⟩ = some (.int .i64 a0_0) := (blk_cell BK159.out 0).trans rfl; have hcz14_1 : w13.cell? ⟨gb159, 1, none⟩ = some (.int .i64 a0_1) := (blk_cell BK159.out 1).trans rfl; have hcz14_2 : w13.cell? ⟨gb159, 2, none⟩ = some (.slice A0_2 l0_2.length c0_2) := (blk_cell BK159.out 2).trans rfl; have hcz14_3 : w13.cell? ⟨gb159, 3, none⟩ = some (.slice A0_3 l0_3.length c0_3) := (blk_cell BK159.out 3).trans rfl; have hfz14_0 := blk_frozen BK159.out 0; have hfz14_1 := blk_frozen BK159.out 1; have hfz14_2 := blk_frozen BK159.out 2; have hfz14_3 := blk_frozen BK159.out 3) | ((with_reducible refine gate_callee (f := 45) rfl ?_); refine goesL_ (some 27) rfl rfl Tryd.func45 (by kernel_rfl) rfl #[.agg #[.int .i64 a0_0, .int .i64 a0_1, .slice A0_2 l0_2.length c0_2, .slice A0_3 l0_3.length c0_3], .int .i64 a1, .int .i64 a2, .bool a3, .bool a4] rfl (by (try simp only [List.map_toArray, List.map_cons, List.map_nil]); first | done | rfl | (simp only [List.length_drop, List.length_take]; rfl)) ?_; (with_reducible refine (spec_moThose.calls k a0_0 a0_1 _ _ l0_2 _ _ l0_3 a1 a2 a3 a4 t162 _ ?side1 ?side2 ?side3 ?side4 A10.out).mono ?_); (case side1 => repeat (first | exact (Kd.C_below HR0_2.out (by repeat (first | (with_reducible first | exact HB.out | apply below_alloc | apply pw_below_drewN | apply below_drew1 | refine below_set ?_ GE159.out) | exact HB.out))) | (with_reducible refine Kd.C_alloc ?_ _) | (with_reducible refine Kd.C_drewN ?_ _) | (with_reducible refine Kd.C_drew ?_))); (case side2 => exact HC0_2.out); (case side3 => repeat (first | exact (Kd.C_below HR0_3.out (by repeat (first | (with_reducible first | exact HB.out | apply below_alloc | apply pw_below_drewN | apply below_drew1 | refine below_set ?_ GE159.out) | exact HB.out))) | (with_reducible refine Kd.C_alloc ?_ _) | (with_reducible refine Kd.C_drewN ?_ _) | (with_reducible refine Kd.C_drew ?_))); (case side4 => exact HC0_3.out); rintro e w15 ⟨v163, rfl, ho0, hb⟩; refine ⟨_, rfl, ?_⟩; have n0_ := Aside0.mk (Kd.R_lower ho0 (below_size (by repeat (first | (with_reducible first | exact HB.out | apply below_alloc | apply pw_below_drewN | apply below_drew1 | refine below_set ?_ GE159.out) | exact HB.out)))); have n1_ := Aside0.mk (blk_below (g := gb159) (o := .cells #[.int .i64 a0_0, .int .i64 a0_1, .slice A0_2 l0_2.length c0_2, .slice A0_3 l0_3.length c0_3] 28 (0, 0)) (by (with_reducible repeat (first | refine blk_drewN ?_ _ | refine blk_drew ?_ | refine blk_alloc ?_ _)); exact BK159.out) hb); have n2_ := Aside0.mk (below_step (by repeat (first | (with_reducible first | exact HB.out | apply below_alloc | apply pw_below_drewN | apply below_drew1 | refine below_set ?_ GE159.out) | exact HB.out)) hb); clear BK159; clear HB; have HO164 := n0_; have BK159 := n1_; have HB := n2_; clear n0_ n1_ n2_; (try clear hb); (try clear hb2); (try clear hk); (try clear hi); (try clear ho0); obtain ⟨Ao16, co16, eo16⟩ := Kd.R_slice HO164.out; subst eo16))
      go_ret2
      exact ⟨by first | rfl | (simp [errW_none, errW_some] <;> rfl) | (simp [*, errW_none, errW_some] <;> rfl), by repeat (first | (with_reducible first | exact HB.out | apply below_alloc | apply pw_below_drewN | apply below_drew1 | refine below_set ?_ GE159.out) | exact HB.out)⟩
    · replace c9 := Bool.eq_false_iff.mpr c9
      subst c9
      have H1 : (some (0, false)) = some (r1, r2) := by rw [if_neg (show ¬ (false = true) by decide)] at H; exact H
      clear H
      have H := H1
      clear H1
      simp only [Option.some.injEq, Prod.mk.injEq] at H
      obtain ⟨rfl, rfl⟩ := H
      go_enter Tryd.func35, Tryd.ntmps35
      go_wp2_with (first | ((with_reducible refine gate_dst (N := 5) rfl ?_); refine box_event ?hg (N := 5) ?hd (cs := #[.int .i64 a0_0, .int .i64 a0_1, .slice A0_2 l0_2.length c0_2, .slice A0_3 l0_3.length c0_3]) (t := 28) ?hr ?_; (case hd => rfl); (case hg => rfl); (case hr => first | (go_simp; done) | (go_simp; rfl)); intro gb159 hg w17 hbox hb; have n0_ := Aside0.mk (below_step (by repeat (first | (with_reducible first | exact HB.out | apply below_alloc | apply pw_below_drewN | apply below_drew1) | exact HB.out)) hb); have n1_ := Aside0.mk (hbox); have n2_ := Aside0.mk ((by rw [hg]; exact (below_size (by repeat (first | (with_reducible first | exact HB.out | apply below_alloc | apply pw_below_drewN | apply below_drew1) | exact HB.out))) : w.heap.size ≤ gb159)); have n3_ := Aside0.mk ((by rw [hg]; exact (below_size (by repeat (first | (with_reducible first | exact HB.out | apply below_alloc | apply pw_below_drewN | apply below_drew1) | exact HB.out))) : w.heap.size ≤ gb159)); clear HB; have HB := n0_; have BK159 := n1_; have GW159 := n2_; have GE159 := n3_; clear n0_ n1_ n2_ n3_; clear hb hbox hg; have hcz18_0 : w17.cell? ⟨gb159, 0, none⟩ = some (.int .i64 a0_0) := (blk_cell BK159.out 0).trans rfl; have hcz18_1 : w17.cell? ⟨gb159, 1, none⟩ = some (.int .i64 a0_1) := (blk_cell BK159.out 1).trans rfl; have hcz18_2 : w17.cell? ⟨gb159, 2, none⟩ = some (.slice A0_2 l0_2.length c0_2) := (blk_cell BK159.out 2).trans rfl; have hcz18_3 : w17.cell? ⟨gb159, 3, none⟩ = some (.slice A0_3 l0_3.length c0_3) := (blk_cell BK159.out 3).trans rfl; have hfz18_0 := blk_frozen BK159.out 0; have hfz18_1 := blk_frozen BK159.out 1; have hfz18_2 := blk_frozen BK159.out 2; have hfz18_3 := blk_frozen BK159.out 3) | ((with_reducible refine gate_callee (f := 43) rfl ?_); refine goesL_ (some 15) rfl rfl Tryd.func43 (by kernel_rfl) rfl #[.agg #[.int .i64 a0_0, .int .i64 a0_1, .slice A0_2 l0_2.length c0_2, .slice A0_3 l0_3.length c0_3], .int .i64 a1, .bool a3] rfl (by (try simp only [List.map_toArray, List.map_cons, List.map_nil]); first | done | rfl | (simp only [List.length_drop, List.length_take]; rfl)) ?_; (with_reducible refine (spec_moAsked.calls k a0_0 a0_1 _ _ l0_2 _ _ l0_3 a1 a3 true _ ?side1 ?side2 ?side3 ?side4 A6.out).mono ?_); (case side1 => repeat (first | exact (Kd.C_below HR0_2.out HB.out) | (with_reducible refine Kd.C_alloc ?_ _) | (with_reducible refine Kd.C_drewN ?_ _) | (with_reducible refine Kd.C_drew ?_))); (case side2 => exact HC0_2.out); (case side3 => repeat (first | exact (Kd.C_below HR0_3.out HB.out) | (with_reducible refine Kd.C_alloc ?_ _) | (with_reducible refine Kd.C_drewN ?_ _) | (with_reducible refine Kd.C_drew ?_))); (case side4 => exact HC0_3.out); rintro e w19 ⟨rfl, hb⟩; refine ⟨_, rfl, ?_⟩; have n0_ := Aside0.mk (blk_below (g := gb159) (o := .cells #[.int .i64 a0_0, .int .i64 a0_1, .slice A0_2 l0_2.length c0_2, .slice A0_3 l0_3.length c0_3] 28 (0, 0)) (by (with_reducible repeat (first | refine blk_drewN ?_ _ | refine blk_drew ?_ | refine blk_alloc ?_ _)); exact BK159.out) hb); have n1_ := Aside0.mk (below_step (by repeat (first | (with_reducible first | exact HB.out | apply below_alloc | apply pw_below_drewN | apply below_drew1 | refine below_set ?_ GE159.out) | exact HB.out)) hb); clear BK159; clear HB; have BK159 := n0_; have HB := n1_; clear n0_ n1_; (try clear hb); (try clear hb2); (try clear hk); (try clear hi)) | (go_at_call 44; (with_reducible refine (spec_moSquares.calls a2 false _ A8.out).mono ?_); rintro e w' ⟨rfl, ⟨nd, rfl⟩⟩))
      go_ret2
      exact ⟨by first | rfl | (simp [errW_none, errW_some] <;> rfl) | (simp [*, errW_none, errW_some] <;> rfl), by repeat (first | (with_reducible first | exact HB.out | apply below_alloc | apply pw_below_drewN | apply below_drew1 | refine below_set ?_ GE159.out) | exact HB.out)⟩
  · replace c7 := Bool.eq_false_iff.mpr c7
    subst c7
    have H1 : (some (0, false)) = some (r1, r2) := by rw [if_neg (show ¬ (false = true) by decide)] at H; exact H
    clear H
    have H := H1
    clear H1
    simp only [Option.some.injEq, Prod.mk.injEq] at H
    obtain ⟨rfl, rfl⟩ := H
    go_enter Tryd.func35, Tryd.ntmps35
    go_wp2_with (first | ((with_reducible refine gate_dst (N := 5) rfl ?_); refine box_event ?hg (N := 5) ?hd (cs := #[.int .i64 a0_0, .int .i64 a0_1, .slice A0_2 l0_2.length c0_2, .slice A0_3 l0_3.length c0_3]) (t := 28) ?hr ?_; (case hd => rfl); (case hg => rfl); (case hr => first | (go_simp; done) | (go_simp; rfl)); intro gb159 hg w20 hbox hb; have n0_ := Aside0.mk (below_step (by repeat (first | (with_reducible first | exact HB.out | apply below_alloc | apply pw_below_drewN | apply below_drew1) | exact HB.out)) hb); have n1_ := Aside0.mk (hbox); have n2_ := Aside0.mk ((by rw [hg]; exact (below_size (by repeat (first | (with_reducible first | exact HB.out | apply below_alloc | apply pw_below_drewN | apply below_drew1) | exact HB.out))) : w.heap.size ≤ gb159)); have n3_ := Aside0.mk ((by rw [hg]; exact (below_size (by repeat (first | (with_reducible first | exact HB.out | apply below_alloc | apply pw_below_drewN | apply below_drew1) | exact HB.out))) : w.heap.size ≤ gb159)); clear HB; have HB := n0_; have BK159 := n1_; have GW159 := n2_; have GE159 := n3_; clear n0_ n1_ n2_ n3_; clear hb hbox hg; have hcz21_0 : w20.cell? ⟨gb159, 0, none⟩ = some (.int .i64 a0_0) := (blk_cell BK159.out 0).trans rfl; have hcz21_1 : w20.cell? ⟨gb159, 1, none⟩ = some (.int .i64 a0_1) := (blk_cell BK159.out 1).trans rfl; have hcz21_2 : w20.cell? ⟨gb159, 2, none⟩ = some (.slice A0_2 l0_2.length c0_2) := (blk_cell BK159.out 2).trans rfl; have hcz21_3 : w20.cell? ⟨gb159, 3, none⟩ = some (.slice A0_3 l0_3.length c0_3) := (blk_cell BK159.out 3).trans rfl; have hfz21_0 := blk_frozen BK159.out 0; have hfz21_1 := blk_frozen BK159.out 1; have hfz21_2 := blk_frozen BK159.out 2; have hfz21_3 := blk_frozen BK159.out 3) | ((with_reducible refine gate_callee (f := 43) rfl ?_); refine goesL_ (some 15) rfl rfl Tryd.func43 (by kernel_rfl) rfl #[.agg #[.int .i64 a0_0, .int .i64 a0_1, .slice A0_2 l0_2.length c0_2, .slice A0_3 l0_3.length c0_3], .int .i64 a1, .bool a3] rfl (by (try simp only [List.map_toArray, List.map_cons, List.map_nil]); first | done | rfl | (simp only [List.length_drop, List.length_take]; rfl)) ?_; (with_reducible refine (spec_moAsked.calls k a0_0 a0_1 _ _ l0_2 _ _ l0_3 a1 a3 false _ ?side1 ?side2 ?side3 ?side4 A6.out).mono ?_); (case side1 => repeat (first | exact (Kd.C_below HR0_2.out HB.out) | (with_reducible refine Kd.C_alloc ?_ _) | (with_reducible refine Kd.C_drewN ?_ _) | (with_reducible refine Kd.C_drew ?_))); (case side2 => exact HC0_2.out); (case side3 => repeat (first | exact (Kd.C_below HR0_3.out HB.out) | (with_reducible refine Kd.C_alloc ?_ _) | (with_reducible refine Kd.C_drewN ?_ _) | (with_reducible refine Kd.C_drew ?_))); (case side4 => exact HC0_3.out); rintro e w22 ⟨rfl, hb⟩; refine ⟨_, rfl, ?_⟩; have n0_ := Aside0.mk (blk_below (g := gb159) (o := .cells #[.int .i64 a0_0, .int .i64 a0_1, .slice A0_2 l0_2.length c0_2, .slice A0_3 l0_3.length c0_3] 28 (0, 0)) (by (with_reducible repeat (first | refine blk_drewN ?_ _ | refine blk_drew ?_ | refine blk_alloc ?_ _)); exact BK159.out) hb); have n1_ := Aside0.mk (below_step (by repeat (first | (with_reducible first | exact HB.out | apply below_alloc | apply pw_below_drewN | apply below_drew1 | refine below_set ?_ GE159.out) | exact HB.out)) hb); clear BK159; clear HB; have BK159 := n0_; have HB := n1_; clear n0_ n1_; (try clear hb); (try clear hb2); (try clear hk); (try clear hi)))
    go_ret2
    exact ⟨by first | rfl | (simp [errW_none, errW_some] <;> rfl) | (simp [*, errW_none, errW_some] <;> rfl), by repeat (first | (with_reducible first | exact HB.out | apply below_alloc | apply pw_below_drewN | apply below_drew1 | refine below_set ?_ GE159.out) | exact HB.out)⟩

end Go.Proofs.YtgakmcoeccmkbaaDoor.P


namespace Go.Proofs.YtgakmcoeccmkbaaDoor.P
open Go.RowKit Go.Proofs.YtgakmcoeccmkbaaDoorW.PrintWords Go.Proofs.YtgakmcoeccmkbaaDoorW.PrintLast Go.Proofs.YtgakmcoeccmkbaaDoorW.PrintMore
attribute [local go_sem] max2_int min2_int max_two min_two max_three min_three max_four min_four   -- for this text's walks alone
set_option linter.unusedVariables false
set_option linter.unusedSimpArgs false

def impl_isFew.f (k : Nat) (a0_0 : Int) (a0_1 : Int) (l0_2 : List Int) (l0_3 : List Int) : Option (Bool) := (impl_IsFigure.f k a0_0 a0_1 l0_2 l0_3).bind fun t208 => (if t208 = true then (some (decide ((wrap64 (a0_0 * a0_1)) ≤ 9))) else (some false))
theorem impl_isFew.mono : ∀ a0 a1 a2 a3 k, LeO (impl_isFew.f k a0 a1 a2 a3) (impl_isFew.f (k + 1) a0 a1 a2 a3) := by
  intro a0 a1 a2 a3 k
  unfold impl_isFew.f
  repeat' first
      | (with_reducible exact impl_IsFigure.mono _ _ _ _ _)
      | (with_reducible exact LeO.refl _)
      | (with_reducible exact LeO.none _)
      | (with_reducible refine LeO.ite ?_ ?_)
      | (with_reducible refine LeO.bind ?_ (fun _ => ?_))
      | exact impl_IsFigure.mono _ _ _ _ _
      | exact LeO.none _
      | refine LeO.ite ?_ ?_
      | refine LeO.bind ?_ (fun _ => ?_)
set_option maxHeartbeats 8000000 in
set_option maxRecDepth 100000 in
theorem impl_isFew.calls (k : Nat) (a0_0 : Int) (a0_1 : Int) (A0_2 : Option Addr) (c0_2 : Nat) (l0_2 : List Int) (A0_3 : Option Addr) (c0_3 : Nat) (l0_3 : List Int) (r : Bool) (w : World) (hr0_2 : Kd.C (Kd.int .i64) w A0_2 l0_2.length l0_2) (hc0_2 : l0_2.length ≤ c0_2) (hr0_3 : Kd.C (Kd.int .i64) w A0_3 l0_3.length l0_3) (hc0_3 : l0_3.length ≤ c0_3) (h : impl_isFew.f k a0_0 a0_1 l0_2 l0_3 = some r) :
    Calls Tryd.prog 62 #[.agg #[.int .i64 a0_0, .int .i64 a0_1, .slice A0_2 l0_2.length c0_2, .slice A0_3 l0_3.length c0_3]] w fun e w' => e = .returned (.bool r) ∧ Below w.heap.size w w' := by
  have hu28 := Tryd.underlying28
  have HR0_2 := Aside0.mk hr0_2
  have HC0_2 := Aside0.mk hc0_2
  clear hr0_2 hc0_2
  have HR0_3 := Aside0.mk hr0_3
  have HC0_3 := Aside0.mk hc0_3
  clear hr0_3 hc0_3
  have HB := Aside0.mk (Below.refl w.heap.size w)
  have H : ((impl_IsFigure.f k a0_0 a0_1 l0_2 l0_3).bind fun t208 => (if t208 = true then (some (decide ((wrap64 (a0_0 * a0_1)) ≤ 9))) else (some false))) = some r := h
  clear h
  replace H := Option.bind_eq_some_iff.mp H
  obtain ⟨t208, A20, H⟩ := H
  replace H : (if t208 = true then (some (decide ((wrap64 (a0_0 * a0_1)) ≤ 9))) else (some false)) = some r := H
  have A2 := Aside0.mk A20
  clear A20
  by_cases c3 : t208 = true
  · subst c3
    have H1 : (some (decide ((wrap64 (a0_0 * a0_1)) ≤ 9))) = some r := by rw [if_pos rfl] at H; exact H
    clear H
    have H := H1
    clear H1
    obtain rfl := Option.some.inj H
    go_enter Tryd.func62, Tryd.ntmps62
    go_wp2_with (first | ((with_reducible refine gate_dst (N := 1) rfl ?_); refine box_event ?hg (N := 1) ?hd (cs := #[.int .i64 a0_0, .int .i64 a0_1, .slice A0_2 l0_2.length c0_2, .slice A0_3 l0_3.length c0_3]) (t := 28) ?hr ?_; (case hd => rfl); (case hg => rfl); (case hr => first | (go_simp; done) | (go_simp; rfl)); intro gb207 hg w4 hbox hb; have n0_ := Aside0.mk (below_step (by repeat (first | (with_reducible first | exact HB.out | apply below_alloc | apply pw_below_drewN | apply below_drew1) | exact HB.out)) hb); have n1_ := Aside0.mk (hbox); have n2_ := Aside0.mk ((by rw [hg]; exact (below_size (by repeat (first | (with_reducible first | exact HB.out | apply below_alloc | apply pw_below_drewN | apply below_drew1) | exact HB.out))) : w.heap.size ≤ gb207)); have n3_ := Aside0.mk ((by rw [hg]; exact (below_size (by repeat (first | (with_reducible first | exact HB.out | apply below_alloc | apply pw_below_drewN | apply below_drew1) | exact HB.out))) : w.heap.size ≤ gb207)); clear HB; have HB := n0_; have BK207 := n1_; have GW207 := n2_; have GE207 := n3_; clear n0_ n1_ n2_ n3_; clear hb hbox hg; have hcz5_0 : w4.cell? ⟨gb207, 0, none⟩ = some (.int .i64 a0_0) := (blk_cell BK207.out 0).trans rfl; have hcz5_1 : w4.cell? ⟨gb207, 1, none⟩ = some (.int .i64 a0_1) := (blk_cell BK207.out 1).trans rfl; have hcz5_2 : w4.cell? ⟨gb207, 2, none⟩ = some (.slice A0_2 l0_2.length c0_2) := (blk_cell BK207.out 2).trans rfl; have hcz5_3 : w4.cell? ⟨gb207, 3, none⟩ = some (.slice A0_3 l0_3.length c0_3) := (blk_cell BK207.out 3).trans rfl; have hfz5_0 := blk_frozen BK207.out 0; have hfz5_1 := blk_frozen BK207.out 1; have hfz5_2 := blk_frozen BK207.out 2; have hfz5_3 := blk_frozen BK207.out 3) | ((with_reducible refine gate_callee (f := 80) rfl ?_); refine goesL_ (some 4) rfl rfl Tryd.func80 (by kernel_rfl) rfl #[.agg #[.int .i64 a0_0, .int .i64 a0_1, .slice A0_2 l0_2.length c0_2, .slice A0_3 l0_3.length c0_3]] rfl (by (try simp only [List.map_toArray, List.map_cons, List.map_nil]); first | done | rfl | (simp only [List.length_drop, List.length_take]; rfl)) ?_; (with_reducible refine (impl_IsFigure.calls k a0_0 a0_1 _ _ l0_2 _ _ l0_3 true _ ?side1 ?side2 ?side3 ?side4 A2.out).mono ?_); (case side1 => repeat (first | exact (Kd.C_below HR0_2.out HB.out) | (with_reducible refine Kd.C_alloc ?_ _) | (with_reducible refine Kd.C_drewN ?_ _) | (with_reducible refine Kd.C_drew ?_))); (case side2 => exact HC0_2.out); (case side3 => repeat (first | exact (Kd.C_below HR0_3.out HB.out) | (with_reducible refine Kd.C_alloc ?_ _) | (with_reducible refine Kd.C_drewN ?_ _) | (with_reducible refine Kd.C_drew ?_))); (case side4 => exact HC0_3.out); rintro e w6 ⟨rfl, hb⟩; refine ⟨_, rfl, ?_⟩; have n0_ := Aside0.mk (blk_below (g := gb207) (o := .cells #[.int .i64 a0_0, .int .i64 a0_1, .slice A0_2 l0_2.length c0_2, .slice A0_3 l0_3.length c0_3] 28 (0, 0)) (by (with_reducible repeat (first | refine blk_drewN ?_ _ | refine blk_drew ?_ | refine blk_alloc ?_ _)); exact BK207.out) hb); have n1_ := Aside0.mk (below_step (by repeat (first | (with_reducible first | exact HB.out | apply below_alloc | apply pw_below_drewN | apply below_drew1 | refine below_set ?_ GE207.out) | exact HB.out)) hb); clear BK207; clear HB; have BK207 := n0_; have HB := n1_; clear n0_ n1_; (try clear hb); (try clear hb2); (try clear hk); (try clear hi); have hcz7_0 : w6.cell? ⟨gb207, 0, none⟩ = some (.int .i64 a0_0) := (blk_cell BK207.out 0).trans rfl; have hcz7_1 : w6.cell? ⟨gb207, 1, none⟩ = some (.int .i64 a0_1) := (blk_cell BK207.out 1).trans rfl; have hcz7_2 : w6.cell? ⟨gb207, 2, none⟩ = some (.slice A0_2 l0_2.length c0_2) := (blk_cell BK207.out 2).trans rfl; have hcz7_3 : w6.cell? ⟨gb207, 3, none⟩ = some (.slice A0_3 l0_3.length c0_3) := (blk_cell BK207.out 3).trans rfl; have hfz7_0 := blk_frozen BK207.out 0; have hfz7_1 := blk_frozen BK207.out 1; have hfz7_2 := blk_frozen BK207.out 2; have hfz7_3 := blk_frozen BK207.out 3))
    go_ret
    exact ⟨by first | rfl | (simp [errW_none, errW_some] <;> rfl) | (simp [*, errW_none, errW_some] <;> rfl), by repeat (first | (with_reducible first | exact HB.out | apply below_alloc | apply pw_below_drewN | apply below_drew1 | refine below_set ?_ GE207.out) | exact HB.out)⟩
  · replace c3 := Bool.eq_false_iff.mpr c3
    subst c3
    have H1 : (some false) = some r := by rw [if_neg (show ¬ (false = true) by decide)] at H; exact H
    clear H
    have H := H1
    clear H1
    obtain rfl := Option.some.inj H
    go_enter Tryd.func62, Tryd.ntmps62
    go_wp2_with (first | ((with_reducible refine gate_dst (N := 1) rfl ?_); refine box_event ?hg (N := 1) ?hd (cs := #[.int .i64 a0_0, .int .i64 a0_1, .slice A0_2 l0_2.length c0_2, .slice A0_3 l0_3.length c0_3]) (t := 28) ?hr ?_; (case hd => rfl); (case hg => rfl); (case hr => first | (go_simp; done) | (go_simp; rfl)); intro gb207 hg w8 hbox hb; have n0_ := Aside0.mk (below_step (by repeat (first | (with_reducible first | exact HB.out | apply below_alloc | apply pw_below_drewN | apply below_drew1) | exact HB.out)) hb); have n1_ := Aside0.mk (hbox); have n2_ := Aside0.mk ((by rw [hg]; exact (below_size (by repeat (first | (with_reducible first | exact HB.out | apply below_alloc | apply pw_below_drewN | apply below_drew1) | exact HB.out))) : w.heap.size ≤ gb207)); have n3_ := Aside0.mk ((by rw [hg]; exact (below_size (by repeat (first | (with_reducible first | exact HB.out | apply below_alloc | apply pw_below_drewN | apply below_drew1) | exact HB.out))) : w.heap.size ≤ gb207)); clear HB; have HB := n0_; have BK207 := n1_; have GW207 := n2_; have GE207 := n3_; clear n0_ n1_ n2_ n3_; clear hb hbox hg; have hcz9_0 : w8.cell? ⟨gb207, 0, none⟩ = some (.int .i64 a0_0) := (blk_cell BK207.out 0).trans rfl; have hcz9_1 : w8.cell? ⟨gb207, 1, none⟩ = some (.int .i64 a0_1) := (blk_cell BK207.out 1).trans rfl; have hcz9_2 : w8.cell? ⟨gb207, 2, none⟩ = some (.slice A0_2 l0_2.length c0_2) := (blk_cell BK207.out 2).trans rfl; have hcz9_3 : w8.cell? ⟨gb207, 3, none⟩ = some (.slice A0_3 l0_3.length c0_3) := (blk_cell BK207.out 3).trans rfl; have hfz9_0 := blk_frozen BK207.out 0; have hfz9_1 := blk_frozen BK207.out 1; have hfz9_2 := blk_frozen BK207.out 2; have hfz9_3 := blk_frozen BK207.out 3) | ((with_reducible refine gate_callee (f := 80) rfl ?_); refine goesL_ (some 4) rfl rfl Tryd.func80 (by kernel_rfl) rfl #[.agg #[.int .i64 a0_0, .int .i64 a0_1, .slice A0_2 l0_2.length c0_2, .slice A0_3 l0_3.length c0_3]] rfl (by (try simp only [List.map_toArray, List.map_cons, List.map_nil]); first | done | rfl | (simp only [List.length_drop, List.length_take]; rfl)) ?_; (with_reducible refine (impl_IsFigure.calls k a0_0 a0_1 _ _ l0_2 _ _ l0_3 false _ ?side1 ?side2 ?side3 ?side4 A2.out).mono ?_); (case side1 => repeat (first | exact (Kd.C_below HR0_2.out HB.out) | (with_reducible refine Kd.C_alloc ?_ _) | (with_reducible refine Kd.C_drewN ?_ _) | (with_reducible refine Kd.C_drew ?_))); (case side2 => exact HC0_2.out); (case side3 => repeat (first | exact (Kd.C_below HR0_3.out HB.out) | (with_reducible refine Kd.C_alloc ?_ _) | (with_reducible refine Kd.C_drewN ?_ _) | (with_reducible refine Kd.C_drew ?_))); (case side4 => exact HC0_3.out); rintro e w10 ⟨rfl, hb⟩; refine ⟨_, rfl, ?_⟩; have n0_ := Aside0.mk (blk_below (g := gb207) (o := .cells #[.int .i64 a0_0, .int .i64 a0_1, .slice A0_2 l0_2.length c0_2, .slice A0_3 l0_3.length c0_3] 28 (0, 0)) (by (with_reducible repeat (first | refine blk_drewN ?_ _ | refine blk_drew ?_ | refine blk_alloc ?_ _)); exact BK207.out) hb); have n1_ := Aside0.mk (below_step (by repeat (first | (with_reducible first | exact HB.out | apply below_alloc | apply pw_below_drewN | apply below_drew1 | refine below_set ?_ GE207.out) | exact HB.out)) hb); clear BK207; clear HB; have BK207 := n0_; have HB := n1_; clear n0_ n1_; (try clear hb); (try clear hb2); (try clear hk); (try clear hi)))
    go_ret
    exact ⟨by first | rfl | (simp [errW_none, errW_some] <;> rfl) | (simp [*, errW_none, errW_some] <;> rfl), by repeat (first | (with_reducible first | exact HB.out | apply below_alloc | apply pw_below_drewN | apply below_drew1 | refine below_set ?_ GE207.out) | exact HB.out)⟩

end Go.Proofs.YtgakmcoeccmkbaaDoor.P


namespace Go.Proofs.YtgakmcoeccmkbaaDoor.P
open Go.RowKit Go.Proofs.YtgakmcoeccmkbaaDoorW.PrintWords Go.Proofs.YtgakmcoeccmkbaaDoorW.PrintLast Go.Proofs.YtgakmcoeccmkbaaDoorW.PrintMore
attribute [local go_sem] max2_int min2_int max_two min_two max_three min_three max_four min_four   -- for this text's walks alone
set_option linter.unusedVariables false
set_option linter.unusedSimpArgs false

def TB (w : World) : Prop := ∀ j, j < 64 → w.cell? ⟨0, j, none⟩ = some (.int .u8 (Lib.deBruijn64tab.getD j 0))
theorem TB.below {w w' : World} (h : TB w) (hb : Below w.heap.size w w') : TB w' := fun j hj => pw_cell_below hb (h j hj)
theorem TB.move {w w' : World} (h : TB w) (hb : w'.heap[0]? = w.heap[0]?) : TB w' := fun j hj => (World.cell?_of_block (w := w) (a := ⟨0, j, none⟩) hb).trans (h j hj)
theorem TB.lt {w : World} (h : TB w) : 0 < w.heap.size := World.block_lt_of_cell? w _ (h 0 (by omega))
theorem tz_key (x a : Nat) (hx : x < 18446744073709551616) (hx0 : x ≠ 0) (hlow : x &&& (18446744073709551616 - x) = a) :
    IntKind.u64.wrap (bits BinOp.and IntKind.u64 (x : Int) (IntKind.u64.wrap (-(x : Int))) * 285870213051353865) / 288230376151711744 = ((a * 285870213051353865 % 18446744073709551616 / 288230376151711744 : Nat) : Int) := by
  have e1 : IntKind.u64.wrap (-(x : Int)) = ((18446744073709551616 - x : Nat) : Int) := by rw [IntKind.wrap_u64]; omega
  rw [e1, bits_and_u64_nat x _ hx (by omega), hlow, IntKind.wrap_u64]
  omega
set_option maxHeartbeats 1000000 in
theorem tz_core (x k idx : Nat) (w : World) (hx0 : ((x : Int) == 0) = false)
    (key : IntKind.u64.wrap (bits BinOp.and IntKind.u64 (x : Int) (IntKind.u64.wrap (-(x : Int))) * 285870213051353865) / 288230376151711744 = (idx : Int))
    (hi : idx < 64) (hk : k < 64) (hcell : w.cell? ⟨0, idx, none⟩ = some (.int .u8 k)) :
    Calls Tryd.prog 109 #[.int .u64 x] w fun e w' => e = .returned (.int .i64 k) ∧ w' = w := by
  go_enter Tryd.func109, Tryd.ntmps109
  go_wp2_with (simp only [key])
  go_ret
  exact ⟨rfl, rfl⟩
theorem tz_any (x : Nat) (hx : x < 2 ^ 60) (hx0 : x ≠ 0) (w : World) (hT : TB w) :
    Calls Tryd.prog 109 #[.int .u64 x] w fun e w' => e = .returned (.int .i64 (Lib.ctz 64 x)) ∧ w = w' := by
  have hx2 : x < 18446744073709551616 := by omega
  obtain ⟨hlow, hk⟩ := Lib.lowest_bit 64 x hx0 hx2
  obtain ⟨hi, htab⟩ := Lib.deBruijn64_at _ hk
  have hcell := hT _ hi
  rw [htab] at hcell
  exact (tz_core x _ _ w (by simp; omega) (tz_key x _ hx2 hx0 hlow) hi hk hcell).mono fun _ _ h => ⟨h.1, h.2.symm⟩

end Go.Proofs.YtgakmcoeccmkbaaDoor.P


namespace Go.Proofs.YtgakmcoeccmkbaaDoor.P
open Go.RowKit Go.Proofs.YtgakmcoeccmkbaaDoorW.PrintWords Go.Proofs.YtgakmcoeccmkbaaDoorW.PrintLast Go.Proofs.YtgakmcoeccmkbaaDoorW.PrintMore
attribute [local go_sem] max2_int min2_int max_two min_two max_three min_three max_four min_four   -- for this text's walks alone
set_option linter.unusedVariables false
set_option linter.unusedSimpArgs false

def bitsN (s : Nat) : List Nat := (List.range 64).filter fun i => s.testBit i
theorem filter_first {p q : Nat → Bool} {k n : Nat} (hk : k < n) (hp : p k = true) (h0 : ∀ i, i < k → p i = false) (hq : ∀ i, q i = (p i && !(i == k))) : (List.range n).filter p = k :: (List.range n).filter q := by
  have e : List.range n = List.range k ++ k :: List.range' (k + 1) (n - k - 1) := by
    rw [List.range_eq_range', List.range_eq_range', show k :: List.range' (k + 1) (n - k - 1) = List.range' k (n - k - 1 + 1) from (List.range'_succ (s := k) (n := n - k - 1) (step := 1)).symm]
    have := List.range'_append_1 (s := 0) (m := k) (n := n - k - 1 + 1)
    rw [Nat.zero_add] at this
    rw [this]
    congr 1
    omega
  rw [e, List.filter_append, List.filter_append, List.filter_cons_of_pos hp, List.filter_cons_of_neg (by rw [hq]; simp)]
  have a1 : (List.range k).filter p = [] := by
    rw [List.filter_eq_nil_iff]; intro i hi; rw [h0 i (List.mem_range.1 hi)]; simp
  have a2 : (List.range k).filter q = [] := by
    rw [List.filter_eq_nil_iff]; intro i hi; rw [hq, h0 i (List.mem_range.1 hi)]; simp
  rw [a1, a2, List.nil_append, List.nil_append]
  congr 1
  apply List.filter_congr
  intro i hi
  rw [hq]
  have : i ≠ k := by
    rw [List.mem_range'_1] at hi; omega
  simp [this]
theorem low_bits (s : Nat) (h0 : s ≠ 0) (h : s < 2 ^ 60) : Lib.ctz 64 s < 60 ∧ s.testBit (Lib.ctz 64 s) = true ∧ (∀ i, i < Lib.ctz 64 s → s.testBit i = false) ∧ (∀ i, (s &&& (s - 1)).testBit i = (s.testBit i && !(i == Lib.ctz 64 s))) ∧ s &&& (s - 1) < s := by
  obtain ⟨m, hm, hk⟩ := Lib.ctzFrom_spec 64 s (by omega) (Nat.lt_of_lt_of_le h (by decide))
  have e : Lib.ctz 64 s = Lib.ctzFrom 64 s := by unfold Lib.ctz; rw [if_neg h0]
  rw [e]
  generalize Lib.ctzFrom 64 s = k at hm hk
  have hp : 0 < 2 ^ k := Nat.two_pow_pos k
  have hs1 : s - 1 = 2 ^ k * (2 * m) + (2 ^ k - 1) := by
    rw [hm, Nat.mul_add]; omega
  have t1 : ∀ i, s.testBit i = (decide (k ≤ i) && (2 * m + 1).testBit (i - k)) := fun i => by rw [hm, Nat.testBit_two_pow_mul]
  have t2 : ∀ i, (s - 1).testBit i = if i < k then (2 ^ k - 1).testBit i else (2 * m).testBit (i - k) := fun i => by rw [hs1, Nat.testBit_two_pow_mul_add _ (by omega)]
  have odd0 : (2 * m + 1).testBit 0 = true := by simp
  refine ⟨?_, ?_, ?_, ?_, ?_⟩
  · rcases Nat.lt_or_ge k 60 with hlt | hge
    · exact hlt
    · exfalso
      have h1 : 2 ^ 60 ≤ 2 ^ k := Nat.pow_le_pow_right (by omega) hge
      have h2 : 2 ^ k * 1 ≤ 2 ^ k * (2 * m + 1) := Nat.mul_le_mul_left _ (by omega)
      omega
  · rw [t1]; simp
  · intro i hi; rw [t1]; simp; omega
  · intro i
    rw [Nat.testBit_and, t1, t2]
    rcases Nat.lt_trichotomy i k with hi | hi | hi
    · simp [show ¬ k ≤ i by omega]
    · subst hi; simp
    · obtain ⟨j, hj⟩ : ∃ j, i - k = j + 1 := ⟨i - k - 1, by omega⟩
      rw [if_neg (by omega), hj, Nat.testBit_succ, Nat.testBit_succ, show (2 * m + 1) / 2 = m by omega, show 2 * m / 2 = m by omega]
      simp [show k ≤ i by omega, show i ≠ k by omega]
  · have := Nat.and_le_right (n := s) (m := s - 1)
    omega
theorem bitsN_step (s : Nat) (h0 : s ≠ 0) (h : s < 2 ^ 60) : bitsN s = Lib.ctz 64 s :: bitsN (s &&& (s - 1)) := by
  obtain ⟨h1, h2, h3, h4, _⟩ := low_bits s h0 h
  exact filter_first (by omega) h2 h3 h4
theorem bitsN_zero : bitsN 0 = [] := by decide
theorem bitsN_len (s : Nat) : (bitsN s).length ≤ 64 := Nat.le_trans (List.length_filter_le _ _) (by simp)
def bitsI (s : Nat) : List Int := (bitsN s).map fun n : Nat => (n : Int)
theorem bitsI_len (s : Nat) : (bitsI s).length ≤ 64 := by unfold bitsI; rw [List.length_map]; exact bitsN_len s
set_option maxRecDepth 100000 in
set_option maxHeartbeats 4000000 in
theorem listed_any (s : Nat) (hs : s < 2 ^ 60) (w : World) (hT : TB w) :
    Calls Tryd.prog 88 #[.int .u64 s] w fun e w' => ∃ v, e = .returned v ∧ Kd.R (Kd.int .i64) 3 w' w.heap.size (fun _ => True) v (bitsI s) ∧ Below w.heap.size w w' := by
  have HT := Aside0.mk hT
  have hi5 : (Tryd.prog.info? 3).map (fun i => (i.zero, i.size, i.bytes)) = some (some (.int .i64 0), 1, 8) := by kernel_rfl
  have R0 : Aside0 (Kd.R (Kd.int .i64) 3 (w.alloc (.cells #[] 3)) w.heap.size (fun _ => True) (.slice (some ⟨w.heap.size, 0, none⟩) 0 0) []) := ⟨Kd.R_mono (R_lit0 (Kd.int .i64) 3 w w.heap.size (Nat.le_refl _)) (fun _ _ => trivial)⟩
  have B0 := Aside0.mk (below_alloc (Below.refl w.heap.size w) (.cells #[] 3))
  have S0 : Aside0 (([] : List Int) ++ bitsI s = bitsI s ∧ s < 2 ^ 60) := ⟨rfl, hs⟩
  clear hT hs
  go_enter Tryd.func88, Tryd.ntmps88
  go_wp2_with fail
  go_loopg [0, 3] s (fun gg u0 u3 wr => ∃ (t : Nat) (acc : List Int), t ≤ gg ∧ u0 = .int .u64 t ∧ Aside0 (acc ++ bitsI t = bitsI s ∧ t < 2 ^ 60) ∧ Aside0 (Kd.R (Kd.int .i64) 3 wr w.heap.size (fun _ => True) u3 acc) ∧ Aside0 (Below w.heap.size w wr))
  case atStart => exact ⟨s, [], Nat.le_refl _, rfl, S0, R0, B0⟩
  case round =>
    clear S0 R0 B0
    obtain ⟨t, acc, hgg, rfl, HS, HO, HB⟩ := hrel
    by_cases ht : t = 0
    · subst ht
      have HF : Aside0 (acc = bitsI s) := ⟨by have h := HS.out.1; rw [show bitsI 0 = [] from by unfold bitsI; rw [bitsN_zero]; rfl, List.append_nil] at h; exact h⟩
      go_wp2_with fail
      go_ret
      exact ⟨_, rfl, by rw [← HF.out]; exact HO.out, HB.out⟩
    · have ht60 := HS.out.2
      have hlen : acc.length ≤ 64 := by
        have h := congrArg List.length HS.out.1
        have := bitsI_len s
        simp at h
        omega
      obtain ⟨-, -, -, -, hlt⟩ := low_bits t ht ht60
      have hstep := bitsN_step t ht ht60
      have hgt : decide (0 < (t : Int)) = true := by simp; omega
      have hsub : IntKind.u64.wrap ((t : Int) - 1) = ((t - 1 : Nat) : Int) := by rw [IntKind.wrap_u64]; omega
      have hand : bits BinOp.and IntKind.u64 (t : Int) ((t - 1 : Nat) : Int) = ((t &&& (t - 1) : Nat) : Int) := bits_and_u64_nat t (t - 1) (by omega) (by omega)
      have HS2 : Aside0 ((acc ++ [(Lib.ctz 64 t : Int)]) ++ bitsI (t &&& (t - 1)) = bitsI s ∧ t &&& (t - 1) < 2 ^ 60) := ⟨by rw [← HS.out.1]; unfold bitsI; rw [hstep]; simp, by omega⟩
      have HTZ := Aside0.mk (fun W (h : TB W) => tz_any t ht60 ht W h)
      have HL := Aside0.mk hlen
      have HT1 := Aside0.mk (HT.out.below HB.out)
      clear ht60 hlen hstep HS
      generalize Lib.ctz 64 t = z at HS2 HTZ
      go_wp2_with (first
        | (go_at_call 109; refine (HTZ.out _ HT1.out).mono ?_; rintro e w' ⟨rfl, rfl⟩)
        | (at_builtin; refine Kd.R_append_row (w0 := w) (h1 := fun _ => rfl) (Value.int .i64) (0 : Int) w.heap.size rfl _ _ _ _ _ 8 rfl Tryd.underlying22 hi5 rfl (by decide) u3 acc [(z : Int)] _ 1 _ (fun _ => True) rfl rfl (fun _ _ => trivial) ?xA ?xB ?xC ?xD ?xE ?_; (case xA => exact Kd.R_alloc HO.out _); (case xB => exact lit1_C (Value.int .i64) _ _ wr _); (case xC => exact below_alloc HB.out _); (case xD => have h_ := HB.out.size; simp; omega); (case xE => have h_ := HL.out; omega); intro v1 w1 ho hb hg hat; have HO1 := Aside0.mk ho; have HB1 := Aside0.mk hb; clear ho hb hg hat))
      go_roundg (t &&& (t - 1))
      case measure => omega
      case rel => exact ⟨t &&& (t - 1), acc ++ [(z : Int)], Nat.le_refl _, rfl, HS2, HO1, HB1⟩

end Go.Proofs.YtgakmcoeccmkbaaDoor.P


namespace Go.Proofs.YtgakmcoeccmkbaaDoor.P
open Go.RowKit Go.Proofs.YtgakmcoeccmkbaaDoorW.PrintWords Go.Proofs.YtgakmcoeccmkbaaDoorW.PrintLast Go.Proofs.YtgakmcoeccmkbaaDoorW.PrintMore
attribute [local go_sem] max2_int min2_int max_two min_two max_three min_three max_four min_four   -- for this text's walks alone
set_option linter.unusedVariables false
set_option linter.unusedSimpArgs false

def subsGo (F : List Int → Nat → List Nat) : List Int → Nat → List Nat
  | [], _ => []
  | x :: l, own => F l (own ||| 2 ^ x.toNat) ++ subsGo F l own
def subsW : Nat → List Int → Nat → List Nat
  | 0, _, own => [own]
  | m + 1, l, own => subsGo (subsW m) l own
theorem subsW_short : ∀ (m : Nat) (l : List Int) (own : Nat), l.length < m → subsW m l own = []
  | 0, _, _, h => by omega
  | m + 1, [], _, _ => rfl
  | m + 1, x :: l, own, h => by
    simp only [List.length_cons] at h
    show subsW m l _ ++ subsW (m + 1) l own = []
    rw [subsW_short m l _ (by omega), subsW_short (m + 1) l own (by omega)]
    rfl
theorem or_lt60 {a b : Nat} (ha : a < 2 ^ 60) (hb : b < 2 ^ 60) : a ||| b < 2 ^ 60 := Nat.or_lt_two_pow ha hb
theorem bit_lt60 {x : Int} (h : 0 ≤ x ∧ x < 60) : 2 ^ x.toNat < 2 ^ 60 := Nat.pow_lt_pow_right (by omega) (by omega)
theorem subsW_lt : ∀ (m : Nat) (l : List Int) (own : Nat), own < 2 ^ 60 → (∀ x ∈ l, 0 ≤ x ∧ x < 60) → ∀ z ∈ subsW m l own, z < 2 ^ 60
  | 0, _, _, ho, _, z, hz => by
    simp only [subsW, List.mem_singleton] at hz
    rw [hz]; exact ho
  | m + 1, [], _, _, _, z, hz => by cases hz
  | m + 1, x :: l, own, ho, hl, z, hz => by
    have hz' : z ∈ subsW m l (own ||| 2 ^ x.toNat) ++ subsW (m + 1) l own := hz
    rcases List.mem_append.1 hz' with h | h
    · exact subsW_lt m l _ (or_lt60 ho (bit_lt60 (hl x List.mem_cons_self))) (fun y hy => hl y (List.mem_cons_of_mem _ hy)) z h
    · exact subsW_lt (m + 1) l own ho (fun y hy => hl y (List.mem_cons_of_mem _ hy)) z h
theorem subsW_len : ∀ (m : Nat) (l : List Int) (own : Nat), (subsW m l own).length ≤ l.length ^ m
  | 0, _, _ => by simp [subsW]
  | m + 1, [], _ => by simp [subsW, subsGo]
  | m + 1, x :: l, own => by
    have h1 := subsW_len m l (own ||| 2 ^ x.toNat)
    have h2 := subsW_len (m + 1) l own
    have h3 : l.length ^ m ≤ (l.length + 1) ^ m := Nat.pow_le_pow_left (by omega) m
    show (subsW m l (own ||| 2 ^ x.toNat) ++ subsW (m + 1) l own).length ≤ (l.length + 1) ^ (m + 1)
    rw [List.length_append, Nat.pow_succ (l.length + 1) m, Nat.mul_succ]
    rw [Nat.pow_succ] at h2
    have h4 : l.length ^ m * l.length ≤ (l.length + 1) ^ m * l.length := Nat.mul_le_mul_right _ h3
    omega
def EachPost (acc ws : List Nat) (O : Nat → Prop) (Inv : List Nat → (Nat → Prop) → World → Prop) (w : World) (e : Ending) (w' : World) : Prop :=
  e = .returned (.tuple #[]) ∧ ∃ O', Inv (acc ++ ws) O' w' ∧ FrameBut O w w' ∧ ∀ k, O' k → O k ∨ w.heap.size ≤ k
abbrev en64 : Nat → Value := fun n => .int .u64 (n : Int)
theorem FrameBut.cellA {O : Nat → Prop} {w w1 : World} (h : FrameBut O w w1) {a : Addr} {v : Value} (hc : w.cell? a = some v) (hn : ¬ O a.block) : w1.cell? a = some v :=
  (World.cell?_of_block (w := w) (a := a) (h.block a.block (World.block_lt_of_cell? w _ hc) hn)).trans hc
structure SubsIn (w : World) (B5 B6 B7 ge : Nat) (lbe : Array Value) (A : Option Addr) (c : Nat) (l : List Int) (Kp : Nat → Prop) : Prop where
  c5 : w.cell? ⟨B5, 0, none⟩ = some (.func (.func ge) #[] lbe)
  c6 : w.cell? ⟨B6, 0, none⟩ = some (.slice A l.length c)
  c7 : w.cell? ⟨B7, 0, none⟩ = some (.func (.func 89) #[] #[.pointer (some ⟨B5, 0, none⟩), .pointer (some ⟨B6, 0, none⟩), .pointer (some ⟨B7, 0, none⟩)])
  k5 : Kp B5
  k6 : Kp B6
  k7 : Kp B7
  row : Kd.R (Kd.int .i64) 3 w 0 Kp (.slice A l.length c) l
theorem SubsIn.move {w w' : World} {B5 B6 B7 ge : Nat} {lbe : Array Value} {A : Option Addr} {c : Nat} {l : List Int} {Kp : Nat → Prop} (h : SubsIn w B5 B6 B7 ge lbe A c l Kp) (hm : ∀ k, Kp k → w'.heap[k]? = w.heap[k]?) : SubsIn w' B5 B6 B7 ge lbe A c l Kp :=
  ⟨(World.cell?_of_block (w := w) (a := ⟨B5, 0, none⟩) (hm _ h.k5)).trans h.c5, (World.cell?_of_block (w := w) (a := ⟨B6, 0, none⟩) (hm _ h.k6)).trans h.c6, (World.cell?_of_block (w := w) (a := ⟨B7, 0, none⟩) (hm _ h.k7)).trans h.c7, h.k5, h.k6, h.k7, Kd.R_move h.row hm⟩
set_option maxRecDepth 100000 in
set_option maxHeartbeats 4000000 in
theorem choose_zero (ge : Nat) (lbe : Array Value) (max : Nat) (Inv : List Nat → (Nat → Prop) → World → Prop) (C : CB Tryd.prog ge lbe en64 (fun n => n < 2 ^ 60) max Inv) (eg : ∀ args w, (callFunc ge args).run Tryd.prog w = .ok (.enter ge args) w)
    (B5 B6 B7 : Nat) (A : Option Addr) (c : Nat) (l : List Int) (Kp : Nat → Prop) (f : Int) (own : Nat) (acc : List Nat) (O : Nat → Prop) (w : World)
    (hin : SubsIn w B5 B6 B7 ge lbe A c l Kp) (hI : Inv acc O w) (ho : own < 2 ^ 60) (hmax : acc.length < max) :
    Calls Tryd.prog 89 #[.int .u64 (own : Int), .int .i64 f, .int .i64 0, .pointer (some ⟨B5, 0, none⟩), .pointer (some ⟨B6, 0, none⟩), .pointer (some ⟨B7, 0, none⟩)] w (EachPost acc [own] O Inv w) := by
  obtain ⟨c5, c6, c7, k5, k6, k7, row⟩ := hin
  have HC := Aside0.mk (C.call acc O w own hmax ho hI)
  clear hI hmax ho row
  go_enter Tryd.func89, Tryd.ntmps89
  go_wp2_with ((go_at_fn ge; refine HC.out.mono ?_; rintro e w' ⟨rfl, O', hI', hF, hO'⟩))
  exact bodyPost_ret (v := .tuple #[]) (by simp [results, Tryd.results89, go_sem]) rfl ⟨rfl, O', hI', hF, hO'⟩
def SubMid (acc : List Nat) (m : Nat) (l : List Int) (own f : Nat) (O : Nat → Prop) (Inv : List Nat → (Nat → Prop) → World → Prop) (W0 : World) (i : Nat) (wr : World) : Prop :=
  ∃ D O', subsW (m + 1) (l.drop f) own = D ++ subsW (m + 1) (l.drop i) own ∧ Inv (acc ++ D) O' wr ∧ FrameBut O W0 wr ∧ ∀ k, O' k → O k ∨ W0.heap.size ≤ k
set_option maxRecDepth 100000 in
set_option maxHeartbeats 8000000 in
theorem choose_succ (ge : Nat) (lbe : Array Value) (max : Nat) (Inv : List Nat → (Nat → Prop) → World → Prop) (C : CB Tryd.prog ge lbe en64 (fun n => n < 2 ^ 60) max Inv)
    (B5 B6 B7 : Nat) (A : Option Addr) (c : Nat) (l : List Int) (Kp : Nat → Prop) (m : Nat) (hl64 : l.length ≤ 64) (hl : ∀ x ∈ l, 0 ≤ x ∧ x < 60)
    (ih : ∀ (f own : Nat) (acc : List Nat) (O : Nat → Prop) (w : World), f ≤ l.length → own < 2 ^ 60 → SubsIn w B5 B6 B7 ge lbe A c l Kp → (∀ k, O k → ¬ Kp k) → (∀ k, Kp k → k < w.heap.size) → Inv acc O w → acc.length + (subsW m (l.drop f) own).length ≤ max →
      Calls Tryd.prog 89 #[.int .u64 (own : Int), .int .i64 (f : Int), .int .i64 (m : Int), .pointer (some ⟨B5, 0, none⟩), .pointer (some ⟨B6, 0, none⟩), .pointer (some ⟨B7, 0, none⟩)] w (EachPost acc (subsW m (l.drop f) own) O Inv w))
    (f own : Nat) (acc : List Nat) (O : Nat → Prop) (w : World) (hf : f ≤ l.length) (ho : own < 2 ^ 60) (hm : m < 64)
    (hin : SubsIn w B5 B6 B7 ge lbe A c l Kp) (hO : ∀ k, O k → ¬ Kp k) (hKp : ∀ k, Kp k → k < w.heap.size) (hI : Inv acc O w) (hmax : acc.length + (subsW (m + 1) (l.drop f) own).length ≤ max) :
    Calls Tryd.prog 89 #[.int .u64 (own : Int), .int .i64 (f : Int), .int .i64 ((m : Int) + 1), .pointer (some ⟨B5, 0, none⟩), .pointer (some ⟨B6, 0, none⟩), .pointer (some ⟨B7, 0, none⟩)] w (EachPost acc (subsW (m + 1) (l.drop f) own) O Inv w) := by
  have HIN := Aside0.mk hin
  have HO := Aside0.mk hO
  have HKP := Aside0.mk hKp
  have HL := Aside0.mk hl
  have IH := Aside0.mk ih
  have HMX := Aside0.mk hmax
  have H0 : Aside0 (SubMid acc m l own f O Inv w f w) := ⟨[], O, rfl, by rw [List.append_nil]; exact hI, FrameBut.refl _ _, fun k hk => .inl hk⟩
  have hl1 : (((m : Int) + 1) == 0) = false := by rw [beq_eq_false_iff_ne]; omega
  clear hin hO hKp hl ih hmax hI
  go_enter Tryd.func89, Tryd.ntmps89
  go_wp2_with fail
  go_loopg [9] (l.length + 1 - f) (fun gg u9 wr => ∃ i : Nat, f ≤ i ∧ i ≤ l.length ∧ l.length + 1 - i ≤ gg ∧ u9 = .int .i64 i ∧ Aside0 (SubMid acc m l own f O Inv w i wr))
  case atStart => exact ⟨f, Nat.le_refl _, hf, Nat.le_refl _, rfl, H0⟩
  case round =>
    clear H0
    obtain ⟨i, hfi, hil, hgg, rfl, HMid⟩ := hrel
    obtain ⟨D, O', hD, hI, hF, hO'⟩ := HMid.out
    have nO : ∀ k, Kp k → ¬ O' k := fun k hk h => (hO' k h).elim (fun h => HO.out k h hk) (fun h => absurd (HKP.out k hk) (by omega))
    have hsame : ∀ k, Kp k → wr.heap[k]? = w.heap[k]? := fun k hk => hF.block k (HKP.out k hk) (fun h => HO.out k h hk)
    have HIN2 := Aside0.mk (HIN.out.move hsame)
    have z6 := HIN2.out.c6
    have z7 := HIN2.out.c7
    by_cases hlt : i + (m + 1) ≤ l.length
    · have hlz : (i : Int) + ((m : Int) + 1) ≤ (l.length : Int) := by omega
      have hi : i < l.length := by omega
      obtain ⟨x, hx⟩ : ∃ x, l[i]? = some x := ⟨l[i], List.getElem?_eq_getElem hi⟩
      have hxb := HL.out x (List.mem_of_getElem? hx)
      have hdrop : l.drop i = x :: l.drop (i + 1) := by
        rw [List.drop_eq_getElem_cons hi]
        rw [List.getElem?_eq_getElem hi] at hx
        injection hx with hx
        rw [hx]
      obtain ⟨nx, rfl⟩ : ∃ n : Nat, x = (n : Int) := ⟨x.toNat, by omega⟩
      obtain ⟨ad, eA, hcell⟩ := Kd.at_int (Kd.R_reads' HIN2.out.row).2.2 (i : Int) (by omega) (by omega)
      have hrd : rd l (i : Int) = (nx : Int) := by
        unfold rd
        rw [Int.toNat_natCast, List.getD_eq_getElem?_getD, hx]; rfl
      rw [hrd, Int.toNat_natCast] at hcell
      have hnx : nx < 60 := by omega
      have hsh : IntKind.u64.wrap ((2 : Int) ^ nx) = (2 : Int) ^ nx := by
        have h := u64_small ((2 ^ nx : Nat) : Int) (Int.natCast_nonneg _) (by exact_mod_cast pow_lt60 hnx)
        rwa [Int.natCast_pow] at h
      have hor : bits .or .u64 (own : Int) ((2 : Int) ^ nx) = ((own ||| 2 ^ nx : Nat) : Int) := by
        have h := or_u64 own (2 ^ nx) ho (pow_lt60 hnx)
        rwa [Int.natCast_pow] at h
      have hg : subsW (m + 1) (l.drop i) own = subsW m (l.drop (i + 1)) (own ||| 2 ^ nx) ++ subsW (m + 1) (l.drop (i + 1)) own := by rw [hdrop]; rfl
      have hD2 : subsW (m + 1) (l.drop f) own = (D ++ subsW m (l.drop (i + 1)) (own ||| 2 ^ nx)) ++ subsW (m + 1) (l.drop (i + 1)) own := by rw [hD, hg, List.append_assoc]
      have HCall : Aside0 (∀ W, Below wr.heap.size wr W → Calls Tryd.prog 89 #[.int .u64 ((own ||| 2 ^ nx : Nat) : Int), .int .i64 ((i : Int) + 1), .int .i64 (m : Int), .pointer (some ⟨B5, 0, none⟩), .pointer (some ⟨B6, 0, none⟩), .pointer (some ⟨B7, 0, none⟩)] W (EachPost (acc ++ D) (subsW m (l.drop (i + 1)) (own ||| 2 ^ nx)) O' Inv W)) := ⟨fun W hW => by
        have h := IH.out (i + 1) (own ||| 2 ^ nx) (acc ++ D) O' W (by omega) (or_lt60 ho (pow_lt60 hnx)) (HIN2.out.move (fun k hk => hW.block k (Nat.lt_of_lt_of_le (HKP.out k hk) hF.size))) (fun k hk h => nO k h hk) (fun k hk => Nat.lt_of_lt_of_le (HKP.out k hk) (Nat.le_trans hF.size hW.size)) (C.below hI hW) (by
          have := HMX.out
          rw [hD2] at this
          simp only [List.length_append] at this ⊢
          omega)
        rw [show ((i + 1 : Nat) : Int) = (i : Int) + 1 by omega] at h
        exact h⟩
      have HD2 := Aside0.mk hD2
      have HF := Aside0.mk hF
      have HO' := Aside0.mk hO'
      have n7 := nO _ HIN2.out.k7
      have n6 := nO _ HIN2.out.k6
      have nA : ¬ O' ad.block := nO _ (HIN2.out.row.1 _ (by rw [eA]; rfl))
      clear hD2 hF hO' hD hI nO hsame hg hx hrd hdrop hxb
      subst eA
      have nA' : ¬ O' (ad.add i).block := by rw [add_block]; exact nA
      generalize hE : own ||| 2 ^ nx = E at hor HCall HD2
      have HE := Aside0.mk hE
      clear hE
      have e1 : IntKind.i64.wrap ((i : Int) + 1) = (i : Int) + 1 := IntWalk.i64_in _ (by omega)
      have e2 : IntKind.i64.wrap (m : Int) = (m : Int) := IntWalk.i64_in _ (by omega)
      go_wp2_with fail
      go_region_held3 (fun w' => w'.cell? ⟨B7, 0, none⟩ = some (.func (.func 89) #[] #[.pointer (some ⟨B5, 0, none⟩), .pointer (some ⟨B6, 0, none⟩), .pointer (some ⟨B7, 0, none⟩)]) ∧ w'.cell? ⟨B6, 0, none⟩ = some (.slice (some ad) l.length c) ∧ w'.cell? (ad.add i) = some (.int .i64 (nx : Int)))
        (first | exact ⟨z7, z6, hcell⟩ | exact ⟨G9.cellA z7 n7, G9.cellA z6 n6, G9.cellA hcell nA'⟩)
        ((go_at_call 89; refine (HCall.out _ (below_drew (Below.refl _ _))).mono ?_; rintro e w9 ⟨rfl, O9, hI9, HF9, hO9⟩; have G9 := ((FrameBut.refl O' wr).drew).trans HF9 (fun k h => .inl h)))
      all_goals
        have I9 := Aside0.mk hI9
        have HG9 := Aside0.mk G9
        have HO9 := Aside0.mk hO9
        go_split_ands
        clear hI9 HF9 hO9 G9
        go_wp2
        go_roundg (l.length + 1 - (i + 1))
        case measure => omega
        case rel => exact ⟨i + 1, by omega, by omega, Nat.le_refl _, by go_num, ⟨_, O9, HD2.out, by rw [← List.append_assoc]; exact I9.out, HF.out.trans HG9.out (fun k h => HO'.out k h), fun k hk => (HO9.out k hk).elim (fun h => HO'.out k h) (fun h => .inr (by have := HF.out.size; simp at h; omega))⟩⟩
    · have hnil : subsW (m + 1) (l.drop i) own = [] := subsW_short _ _ _ (by rw [List.length_drop]; omega)
      have HR : Aside0 (EachPost acc (subsW (m + 1) (l.drop f) own) O Inv w (.returned (.tuple #[])) wr) := ⟨rfl, O', by rw [hD, hnil, List.append_nil]; exact hI, hF, hO'⟩
      have hlz : ¬ (i : Int) + ((m : Int) + 1) ≤ (l.length : Int) := by omega
      clear hD hI hF hO' nO hsame hnil HMid
      go_wp2_with fail
      exact bodyPost_end (v := .tuple #[]) (by simp [results, Tryd.results89, go_sem]) rfl HR.out
theorem choose_any (ge : Nat) (lbe : Array Value) (max : Nat) (Inv : List Nat → (Nat → Prop) → World → Prop) (C : CB Tryd.prog ge lbe en64 (fun n => n < 2 ^ 60) max Inv) (eg : ∀ args w, (callFunc ge args).run Tryd.prog w = .ok (.enter ge args) w)
    (B5 B6 B7 : Nat) (A : Option Addr) (c : Nat) (l : List Int) (Kp : Nat → Prop) (hl64 : l.length ≤ 64) (hl : ∀ x ∈ l, 0 ≤ x ∧ x < 60) :
    ∀ (m : Nat), m ≤ 64 → ∀ (f own : Nat) (acc : List Nat) (O : Nat → Prop) (w : World), f ≤ l.length → own < 2 ^ 60 → SubsIn w B5 B6 B7 ge lbe A c l Kp → (∀ k, O k → ¬ Kp k) → (∀ k, Kp k → k < w.heap.size) → Inv acc O w → acc.length + (subsW m (l.drop f) own).length ≤ max →
      Calls Tryd.prog 89 #[.int .u64 (own : Int), .int .i64 (f : Int), .int .i64 (m : Int), .pointer (some ⟨B5, 0, none⟩), .pointer (some ⟨B6, 0, none⟩), .pointer (some ⟨B7, 0, none⟩)] w (EachPost acc (subsW m (l.drop f) own) O Inv w)
  | 0, _, f, own, acc, O, w, _, ho, hin, _, _, hI, hmax => choose_zero ge lbe max Inv C eg B5 B6 B7 A c l Kp f own acc O w hin hI ho (by simp [subsW] at hmax; omega)
  | m + 1, hm, f, own, acc, O, w, hf, ho, hin, hO, hKp, hI, hmax => by
    have ih := choose_any ge lbe max Inv C eg B5 B6 B7 A c l Kp hl64 hl m (by omega)
    exact choose_succ ge lbe max Inv C B5 B6 B7 A c l Kp m hl64 hl ih f own acc O w hf ho (by omega) hin hO hKp hI hmax
theorem store_fnS {P : Program} {w : World} {a : Addr} {m : Mode} (fn : Fn) (first cap : Array Value) : (store a (.func fn first cap) m).run P w = stored P w a (.func fn first cap) m := run_store P w a _ m rfl
attribute [local go_sem] store_fnS
theorem bitsI_lt (s : Nat) (hs : s < 2 ^ 60) : ∀ x ∈ bitsI s, 0 ≤ x ∧ x < 60 := by
  intro x hx
  obtain ⟨n, hn, rfl⟩ := List.mem_map.1 hx
  have h1 : s.testBit n = true := (List.mem_filter.1 hn).2
  have h2 : n < 60 := by
    rcases Nat.lt_or_ge n 60 with h | h
    · exact h
    · rw [Nat.testBit_lt_two_pow (Nat.lt_of_lt_of_le hs (Nat.pow_le_pow_right (by omega) h))] at h1; cases h1
  omega
set_option maxRecDepth 100000 in
set_option maxHeartbeats 4000000 in
theorem subsets_any (ge : Nat) (lbe : Array Value) (max : Nat) (Inv : List Nat → (Nat → Prop) → World → Prop) (C : CB Tryd.prog ge lbe en64 (fun n => n < 2 ^ 60) max Inv) (eg : ∀ args w, (callFunc ge args).run Tryd.prog w = .ok (.enter ge args) w)
    (s m : Nat) (hs : s < 2 ^ 60) (hm : m ≤ 64) (acc : List Nat) (O : Nat → Prop) (w : World) (hT : TB w) (hI : Inv acc O w) (hmax : acc.length + (subsW m (bitsI s) 0).length ≤ max) :
    Calls Tryd.prog 73 #[.int .u64 (s : Int), .int .i64 (m : Int), .func (.func ge) #[] lbe] w (EachPost acc (subsW m (bitsI s) 0) O Inv w) := by
  have hmf : ∀ (fn : Fn) (first cap : Array Value) (w : World), (Instr.makeFunc fn first cap).run Tryd.prog w = .ok (.func fn first cap) w := fun _ _ _ _ => rfl
  have HC : Aside0 (∀ (W : World) (B5 B6 B7 : Nat) (A : Option Addr) (c : Nat), Below w.heap.size w W → SubsIn W B5 B6 B7 ge lbe A c (bitsI s) (fun k => w.heap.size ≤ k ∧ k < W.heap.size) → Calls Tryd.prog 89 #[.int .u64 0, .int .i64 0, .int .i64 (m : Int), .pointer (some ⟨B5, 0, none⟩), .pointer (some ⟨B6, 0, none⟩), .pointer (some ⟨B7, 0, none⟩)] W (EachPost acc (subsW m (bitsI s) 0) O Inv w)) := ⟨fun W B5 B6 B7 A c hB hin => by
    have h := choose_any ge lbe max Inv C eg B5 B6 B7 A c (bitsI s) (fun k => w.heap.size ≤ k ∧ k < W.heap.size) (bitsI_len s) (fun x hx => bitsI_lt s hs x hx) m hm 0 0 acc O W (Nat.zero_le _) (by decide) hin (fun k hk h => by have := C.lt acc O w hI k hk; omega) (fun k hk => hk.2) (C.below hI hB) hmax
    refine Calls.mono h ?_
    rintro e w' ⟨rfl, O', h1, h2, h3⟩
    exact ⟨rfl, O', h1, (FrameBut.of_below (O := O) hB).trans h2 (fun k hk => .inl hk), fun k hk => (h3 k hk).imp id (fun h => Nat.le_trans hB.size h)⟩⟩
  have HT := Aside0.mk hT
  have HS := Aside0.mk hs
  clear hI hT hmax hs eg
  go_enter Tryd.func73, Tryd.ntmps73
  go_wp2_with fail
  go_at_call 88
  refine (listed_any s HS.out _ ?xT).mono ?_
  · exact HT.out.below (below_alloc (Below.refl _ _) _)
  rintro e w1 ⟨v, rfl, hr, hb⟩
  obtain ⟨A, c, rfl⟩ := Kd.R_slice hr
  have k5 : w1.cell? ⟨w.heap.size, 0, none⟩ = some (.func (.func ge) #[] lbe) := pw_cell_below hb (World.cell?_alloc_at _ _ _ _ rfl)
  have hz : w.heap.size + 1 ≤ w1.heap.size := by have h_ := hb.size; simp at h_; exact h_
  have HR := Aside0.mk hr
  have HB := Aside0.mk (below_step (below_alloc (Below.refl w.heap.size w) _) hb)
  clear hr hb
  go_wp2_with fail
  go_at_call 89
  refine (HC.out _ w.heap.size w1.heap.size (w1.heap.size + 1) A c ?xb ?xin).mono ?_
  · exact below_alloc (below_alloc HB.out _) _
  · refine ⟨?_, ?_, ?_, ⟨by omega, by simp; omega⟩, ⟨by omega, by simp; omega⟩, ⟨by omega, by simp⟩, ?_⟩
    · exact pw_cell_below (below_alloc (below_alloc (Below.refl _ _) _) _) k5
    · exact pw_cell_below (below_alloc (Below.refl _ _) _) (World.cell?_alloc_at _ _ _ _ rfl)
    · exact World.cell?_alloc_at _ _ _ _ (by simp)
    · exact Kd.R_lower (Kd.R_mono (Kd.R_bound (Kd.R_alloc (Kd.R_alloc HR.out _) _)) (fun k hk => ⟨by have h_ := hk.2.1; simp at h_; omega, hk.2.2.1⟩)) (Nat.zero_le _)
  rintro e w9 ⟨rfl, h9⟩
  have H9 : Aside0 (EachPost acc (subsW m (bitsI s) 0) O Inv w (.returned (.tuple #[])) w9) := ⟨rfl, h9⟩
  clear h9
  go_wp2
  exact bodyPost_end (v := .tuple #[]) (by simp [results, Tryd.results73, go_sem]) rfl H9.out

end Go.Proofs.YtgakmcoeccmkbaaDoor.P


namespace Go.Proofs.YtgakmcoeccmkbaaDoor.P
open Go.RowKit Go.Proofs.YtgakmcoeccmkbaaDoorW.PrintWords Go.Proofs.YtgakmcoeccmkbaaDoorW.PrintLast Go.Proofs.YtgakmcoeccmkbaaDoorW.PrintMore
attribute [local go_sem] max2_int min2_int max_two min_two max_three min_three max_four min_four   -- for this text's walks alone
set_option linter.unusedVariables false
set_option linter.unusedSimpArgs false

def impl_grid_all.f (a0_0 : Int) (a0_1 : Int) : Option (Int) := (impl_grid_levels.f a0_0 a0_1).bind fun t238 => ((impl_grid_uprights.f a0_0 a0_1).bind fun t239 => (if 0 ≤ (wrap64 (t238 + t239)) then (some (IntKind.u64.wrap ((shl .u64 1 (wrap64 (t238 + t239))) - 1))) else (none)))
def impl_grid_all.T1 : Bool × List (List Nat × List Nat) := (true, [([], []), ([0], [0]), ([], []), ([2, 1], [2]), ([1, 3], [1, 3]), ([4], [4]), ([5], [5]), ([6, 3, 0, 1, 2, 3, 4, 5, 6], [6])])
def impl_grid_all.B1 : List Nat := [0, 1, 0, 7, 15, 31, 63, 127]
theorem impl_grid_all.tab1 : rtab .any (opsOf Tryd.f75 1) = impl_grid_all.T1 := by kernel_rfl
theorem impl_grid_all.bits1 : waitsOk impl_grid_all.T1.2 impl_grid_all.B1 = true := by kernel_rfl
set_option maxHeartbeats 8000000 in
set_option maxRecDepth 100000 in
theorem impl_grid_all.calls (a0_0 : Int) (a0_1 : Int) (r : Int) (w : World) (h : impl_grid_all.f a0_0 a0_1 = some r) :
    Calls Tryd.prog 75 #[.agg #[.int .i64 a0_0, .int .i64 a0_1]] w fun e w' => e = .returned (.int .u64 r) ∧ Below w.heap.size w w' := by
  have hu62 := Tryd.underlying62
  have HB := Aside0.mk (Below.refl w.heap.size w)
  have H : ((impl_grid_levels.f a0_0 a0_1).bind fun t238 => ((impl_grid_uprights.f a0_0 a0_1).bind fun t239 => (if 0 ≤ (wrap64 (t238 + t239)) then (some (IntKind.u64.wrap ((shl .u64 1 (wrap64 (t238 + t239))) - 1))) else (none)))) = some r := h
  clear h
  replace H := Option.bind_eq_some_iff.mp H
  obtain ⟨t238, A20, H⟩ := H
  replace H : ((impl_grid_uprights.f a0_0 a0_1).bind fun t239 => (if 0 ≤ (wrap64 (t238 + t239)) then (some (IntKind.u64.wrap ((shl .u64 1 (wrap64 (t238 + t239))) - 1))) else (none))) = some r := H
  have A2 := Aside0.mk A20
  clear A20
  replace H := Option.bind_eq_some_iff.mp H
  obtain ⟨t239, A30, H⟩ := H
  replace H : (if 0 ≤ (wrap64 (t238 + t239)) then (some (IntKind.u64.wrap ((shl .u64 1 (wrap64 (t238 + t239))) - 1))) else (none)) = some r := H
  have A3 := Aside0.mk A30
  clear A30
  obtain ⟨ji4, hji4⟩ : ∃ j_ : Int, (wrap64 (t238 + t239)) = j_ := ⟨_, rfl⟩
  replace H : (if 0 ≤ (ji4) then (some (IntKind.u64.wrap ((shl .u64 1 (ji4)) - 1))) else (none)) = some r := by first | (rw [hji4] at H; exact H) | (simp only [hji4] at H ⊢; exact H)
  (try rw [hji4] at A2)
  (try rw [hji4] at A3)
  have hji4w : (IntKind.i64.wrap (t238 + t239)) = ji4 := (i64_w _).trans hji4
  by_cases c5 : 0 ≤ (ji4)
  · rw [if_pos c5] at H
    have c5b0 := eq_true c5
    have c5b1 : decide (0 ≤ (ji4)) = true := decide_eq_true c5
    clear c5
    obtain ⟨ji6, hji6⟩ : ∃ j_ : Int, (shl .u64 1 (ji4)) = j_ := ⟨_, rfl⟩
    replace H : (some (IntKind.u64.wrap ((ji6) - 1))) = some r := by first | (rw [hji6] at H; exact H) | (simp only [hji6] at H ⊢; exact H)
    (try rw [hji6] at A2)
    (try rw [hji6] at A3)
    have hji6_ : (IntKind.u64.wrap (1 * 2 ^ min (ji4).toNat 64)) = ji6 := hji6
    have hji6z : (ji4) ≤ 64 → (IntKind.u64.wrap (1 * 2 ^ (ji4).toNat)) = ji6 := shl_small hji6
    have hji6u : (IntKind.u64.wrap (2 ^ min (ji4).toNat 64)) = ji6 := by have h_ := hji6_; rw [Int.one_mul] at h_; exact h_
    have hji6v : (ji4) ≤ 64 → (IntKind.u64.wrap (2 ^ (ji4).toNat)) = ji6 := fun hle_ => by have h_ := hji6z hle_; rw [Int.one_mul] at h_; exact h_
    obtain rfl := Option.some.inj H
    go_enter Tryd.func75, Tryd.ntmps75
    try go_wp2_with (first | ((with_reducible refine gate_dst (N := 1) rfl ?_); refine box_event ?hg (N := 1) ?hd (cs := #[.int .i64 a0_0, .int .i64 a0_1]) (t := 62) ?hr ?_; (case hd => rfl); (case hg => rfl); (case hr => first | (go_simp; done) | (go_simp; rfl)); intro gb237 hg w7 hbox hb; have n0_ := Aside0.mk (below_step (by repeat (first | (with_reducible first | exact HB.out | apply below_alloc | apply pw_below_drewN | apply below_drew1) | exact HB.out)) hb); have n1_ := Aside0.mk (hbox); have n2_ := Aside0.mk ((by rw [hg]; exact (below_size (by repeat (first | (with_reducible first | exact HB.out | apply below_alloc | apply pw_below_drewN | apply below_drew1) | exact HB.out))) : w.heap.size ≤ gb237)); have n3_ := Aside0.mk ((by rw [hg]; exact (below_size (by repeat (first | (with_reducible first | exact HB.out | apply below_alloc | apply pw_below_drewN | apply below_drew1) | exact HB.out))) : w.heap.size ≤ gb237)); clear HB; have HB := n0_; have BK237 := n1_; have GW237 := n2_; have GE237 := n3_; clear n0_ n1_ n2_ n3_; clear hb hbox hg))
    have n0_ := Aside0.mk (blk_drew BK237.out)
    have n1_ := Aside0.mk (below_drew1 HB.out)
    clear BK237
    clear HB
    have BK237 := n0_
    have HB := n1_
    clear n0_ n1_
    refine start_ (n := 8) (S := fun w' => w'.cell? ⟨gb237, 0, none⟩ = some (.int .i64 a0_0) ∧ w'.cell? ⟨gb237, 1, none⟩ = some (.int .i64 a0_1)) (ds := []) #[false, false, false, false, false, false, false, false] (by kernel_rfl) rfl rfl ⟨(blk_cell BK237.out 0).trans rfl, (blk_cell BK237.out 1).trans rfl⟩ (fun hHeld => ?_); refine with_tabW impl_grid_all.tab1 impl_grid_all.bits1 (fun HT_ HW_ => ?_)
    generalize w7.drew = w8 at BK237 HB hHeld ⊢
    refine take_ (i := 0) (N := some 3) (v := ?_) (a' := ?_) #[true, false, false, false, false, false, false, false] rfl rfl (take_ofW HT_.out HW_.out (by kernel_rfl)) (fun _ _ _ h => h) (Or.inl ⟨by rfl, ?_⟩) hHeld ?_ ?_
    rotate_left
    · rintro w' ⟨s0, s1⟩
      go_simp
      with_reducible rfl
    rotate_left
    · simp only [Act.put, List.setIfInBounds_toArray, List.set_cons_zero, List.set_cons_succ, i64_w, i32_w]
      rfl
    refine take_ (i := 2) (N := some 5) (v := ?_) (a' := ?_) #[true, false, true, false, false, false, false, false] rfl rfl (take_ofW HT_.out HW_.out (by kernel_rfl)) (fun _ _ _ h => h) (Or.inl ⟨by rfl, ?_⟩) hHeld ?_ ?_
    rotate_left
    · rintro w' ⟨s0, s1⟩
      go_simp
      with_reducible rfl
    rotate_left
    · simp only [Act.put, List.setIfInBounds_toArray, List.set_cons_zero, List.set_cons_succ, i64_w, i32_w]
      rfl
    refine one_ (i := 1) (N := some 4) #[true, true, true, false, false, false, false, false] rfl rfl (one_of HT_.out (by kernel_rfl)) (by decide) (fun K hK => ?_)
    refine goes_ Tryd.func87 (by kernel_rfl) rfl #[.agg #[.int .i64 a0_0, .int .i64 a0_1]] (by rfl) rfl rfl (by (try simp only [List.map_toArray, List.map_cons, List.map_nil]); first | done | rfl | (simp only [List.length_drop, List.length_take]; rfl)) ?_
    with_reducible refine (impl_grid_levels.calls a0_0 a0_1 t238 _ A2.out).mono ?_
    rintro e w9 ⟨rfl, hb⟩
    refine ⟨_, rfl, ?_⟩
    have n0_ := Aside0.mk (blk_below (g := gb237) (o := .cells #[.int .i64 a0_0, .int .i64 a0_1] 62 (0, 0)) (by (with_reducible repeat (first | refine blk_drewN ?_ _ | refine blk_drew ?_ | refine blk_alloc ?_ _)); exact BK237.out) hb)
    have n1_ := Aside0.mk (below_step (by repeat (first | (with_reducible first | exact HB.out | apply below_alloc | apply pw_below_drewN | apply below_drew1 | refine below_set ?_ GE237.out) | exact HB.out)) hb)
    clear BK237
    clear HB
    have BK237 := n0_
    have HB := n1_
    clear n0_ n1_
    (try clear hb)
    (try clear hb2)
    (try clear hk)
    (try clear hi)
    refine hK.out _ _ ⟨(blk_cell BK237.out 0).trans rfl, (blk_cell BK237.out 1).trans rfl⟩ (fun hHeld => ?_)
    clear hK K
    refine norm_ (a' := ?_) ?_ ?_
    rotate_left
    · show Act.put _ (some 4) _ = _
      simp only [Act.put, List.setIfInBounds_toArray, List.set_cons_zero, List.set_cons_succ, i64_w, i32_w]
      rfl
    refine one_ (i := 3) (N := some 6) #[true, true, true, true, false, false, false, false] rfl rfl (one_of HT_.out (by kernel_rfl)) (by decide) (fun K hK => ?_)
    refine goes_ Tryd.func90 (by kernel_rfl) rfl #[.agg #[.int .i64 a0_0, .int .i64 a0_1]] (by rfl) rfl rfl (by (try simp only [List.map_toArray, List.map_cons, List.map_nil]); first | done | rfl | (simp only [List.length_drop, List.length_take]; rfl)) ?_
    with_reducible refine (impl_grid_uprights.calls a0_0 a0_1 t239 _ A3.out).mono ?_
    rintro e w10 ⟨rfl, hb⟩
    refine ⟨_, rfl, ?_⟩
    have n0_ := Aside0.mk (blk_below (g := gb237) (o := .cells #[.int .i64 a0_0, .int .i64 a0_1] 62 (0, 0)) (by (with_reducible repeat (first | refine blk_drewN ?_ _ | refine blk_drew ?_ | refine blk_alloc ?_ _)); exact BK237.out) hb)
    have n1_ := Aside0.mk (below_step (by repeat (first | (with_reducible first | exact HB.out | apply below_alloc | apply pw_below_drewN | apply below_drew1 | refine below_set ?_ GE237.out) | exact HB.out)) hb)
    clear BK237
    clear HB
    have BK237 := n0_
    have HB := n1_
    clear n0_ n1_
    (try clear hb)
    (try clear hb2)
    (try clear hk)
    (try clear hi)
    refine hK.out _ _ ⟨(blk_cell BK237.out 0).trans rfl, (blk_cell BK237.out 1).trans rfl⟩ (fun hHeld => ?_)
    clear hK K
    refine norm_ (a' := ?_) ?_ ?_
    rotate_left
    · show Act.put _ (some 6) _ = _
      simp only [Act.put, List.setIfInBounds_toArray, List.set_cons_zero, List.set_cons_succ, i64_w, i32_w]
      rfl
    refine pure_ (i := 4) (N := some 7) (v := ?_) (a' := ?_) #[true, true, true, true, true, false, false, false] rfl rfl (any_of HT_.out (by kernel_rfl)) (fun _ _ _ h => h) (Or.inl ⟨by rfl, ?_⟩) ?_ ?_
    rotate_left
    · intro w'
      go_simp
      with_reducible rfl
    rotate_left
    · simp only [Act.put, List.setIfInBounds_toArray, List.set_cons_zero, List.set_cons_succ, i64_w, i32_w]
      rfl
    refine pure_ (i := 5) (N := some 8) (v := ?_) (a' := ?_) #[true, true, true, true, true, true, false, false] rfl rfl (any_of HT_.out (by kernel_rfl)) (fun _ _ _ h => h) (Or.inl ⟨by rfl, ?_⟩) ?_ ?_
    rotate_left
    · intro w'
      go_simp
      with_reducible rfl
    rotate_left
    · simp only [Act.put, List.setIfInBounds_toArray, List.set_cons_zero, List.set_cons_succ, i64_w, i32_w]
      rfl
    refine pure_ (i := 6) (N := some 9) (v := ?_) (a' := ?_) #[true, true, true, true, true, true, true, false] rfl rfl (any_of HT_.out (by kernel_rfl)) (fun _ _ _ h => h) (Or.inl ⟨by rfl, ?_⟩) ?_ ?_
    rotate_left
    · intro w'
      go_simp
      with_reducible rfl
    rotate_left
    · simp only [Act.put, List.setIfInBounds_toArray, List.set_cons_zero, List.set_cons_succ, i64_w, i32_w]
      rfl
    refine pure_ (i := 7) (N := some 2) (v := ?_) (a' := ?_) #[true, true, true, true, true, true, true, true] rfl rfl (any_of HT_.out (by kernel_rfl)) (fun _ _ _ h => h) (Or.inl ⟨by rfl, ?_⟩) ?_ ?_
    rotate_left
    · intro w'
      go_simp
      with_reducible rfl
    rotate_left
    · simp only [Act.put, List.setIfInBounds_toArray, List.set_cons_zero, List.set_cons_succ, i64_w, i32_w]
      rfl
    refine done_ (done_of HT_.out (by kernel_rfl)) ?_
    try go_wp2
    go_ret
    exact ⟨by first | rfl | (simp [errW_none, errW_some] <;> rfl) | (simp only [← hji4, ← hji6]; first | rfl | (simp [errW_none, errW_some] <;> rfl)) | (simp [*, errW_none, errW_some] <;> rfl), by repeat (first | (with_reducible first | exact HB.out | apply below_alloc | apply pw_below_drewN | apply below_drew1 | refine below_set ?_ GE237.out) | exact HB.out)⟩
  · rw [if_neg c5] at H
    exact absurd H (by simp)

end Go.Proofs.YtgakmcoeccmkbaaDoor.P


namespace Go.Proofs.YtgakmcoeccmkbaaDoor.P
open Go.RowKit Go.Proofs.YtgakmcoeccmkbaaDoorW.PrintWords Go.Proofs.YtgakmcoeccmkbaaDoorW.PrintLast Go.Proofs.YtgakmcoeccmkbaaDoorW.PrintMore
attribute [local go_sem] max2_int min2_int max_two min_two max_three min_three max_four min_four   -- for this text's walks alone
set_option linter.unusedVariables false
set_option linter.unusedSimpArgs false

def PutInv (Inv : List Nat → (Nat → Prop) → World → Prop) (base : List Nat) (s g Be Bs Bg ge : Nat) (lbe : Array Value) (acc : List Nat) (O : Nat → Prop) (W : World) : Prop :=
  ∃ O1, Inv (base ++ acc.map fun p => diffN s g ||| p) O1 W ∧ W.cell? ⟨Be, 0, none⟩ = some (.func (.func ge) #[] lbe) ∧ W.cell? ⟨Bs, 0, none⟩ = some (.int .u64 (s : Int)) ∧ W.cell? ⟨Bg, 0, none⟩ = some (.int .u64 (g : Int)) ∧
    (∀ k, O k ↔ O1 k ∨ k = Be ∨ k = Bs ∨ k = Bg) ∧ ∀ k, O1 k → k ≠ Be ∧ k ≠ Bs ∧ k ≠ Bg
set_option maxRecDepth 100000 in
set_option maxHeartbeats 4000000 in
theorem putLit_any (Inv : List Nat → (Nat → Prop) → World → Prop) (ge : Nat) (lbe : Array Value) (max : Nat) (C : CB Tryd.prog ge lbe en64 (fun n => n < 2 ^ 60) max Inv) (eg : ∀ args w, (callFunc ge args).run Tryd.prog w = .ok (.enter ge args) w)
    (base : List Nat) (s g Be Bs Bg : Nat) (hs : s < 2 ^ 60) (hg : g < 2 ^ 60) (acc : List Nat) (O : Nat → Prop) (W : World) (p : Nat) (hp : p < 2 ^ 60) (hmax : base.length + acc.length < max) (hI : PutInv Inv base s g Be Bs Bg ge lbe acc O W) :
    Calls Tryd.prog 76 #[.int .u64 (p : Int), .pointer (some ⟨Be, 0, none⟩), .pointer (some ⟨Bs, 0, none⟩), .pointer (some ⟨Bg, 0, none⟩)] W fun e w' => e = .returned (.tuple #[]) ∧ ∃ O', PutInv Inv base s g Be Bs Bg ge lbe (acc ++ [p]) O' w' ∧ FrameBut O W w' ∧ ∀ k, O' k → O k ∨ W.heap.size ≤ k := by
  obtain ⟨O1, h1, ce, cs, cg, hO, hne⟩ := hI
  have be := World.block_lt_of_cell? W _ ce
  have bs := World.block_lt_of_cell? W _ cs
  have bg := World.block_lt_of_cell? W _ cg
  have hd := diffN_lt g hs
  have hx := or_lt60 hd hp
  have HC := Aside0.mk (C.call _ O1 W _ (by rw [List.length_append, List.length_map]; exact hmax) hx h1)
  have e1 := andNot_u64 s g hs hg
  have e2 := or_u64 (diffN s g) p hd hp
  have HO := Aside0.mk hO
  have HN := Aside0.mk hne
  clear h1 hO hne hs hg hp hmax hd hx
  go_enter Tryd.func76, Tryd.ntmps76
  go_wp2_with ((go_at_fn ge; refine HC.out.mono ?_; rintro e w' ⟨rfl, O', hI', hF, hO'⟩))
  refine bodyPost_end (v := .tuple #[]) (by simp [results, Tryd.results76, go_sem]) rfl ⟨rfl, fun k => O' k ∨ k = Be ∨ k = Bs ∨ k = Bg, ⟨O', ?_, ?_, ?_, ?_, fun k => Iff.rfl, ?_⟩, ?_, ?_⟩
  · rw [List.map_append, ← List.append_assoc]; exact hI'
  · exact hF.cell ce (fun h => (HN.out _ h).1 rfl)
  · exact hF.cell cs (fun h => (HN.out _ h).2.1 rfl)
  · exact hF.cell cg (fun h => (HN.out _ h).2.2 rfl)
  · intro k hk
    rcases hO' k hk with h | h
    · exact HN.out k h
    · omega
  · exact hF.mono (fun k _ h => (HO.out k).2 (.inl h))
  · intro k hk
    rcases hk with h | h
    · exact (hO' k h).imp (fun h => (HO.out k).2 (.inl h)) id
    · exact .inl ((HO.out k).2 (.inr h))
theorem putCB (Inv : List Nat → (Nat → Prop) → World → Prop) (ge : Nat) (lbe : Array Value) (max max2 : Nat) (C : CB Tryd.prog ge lbe en64 (fun n => n < 2 ^ 60) max Inv) (eg : ∀ args w, (callFunc ge args).run Tryd.prog w = .ok (.enter ge args) w)
    (base : List Nat) (s g Be Bs Bg : Nat) (hs : s < 2 ^ 60) (hg : g < 2 ^ 60) (hmax : base.length + max2 ≤ max) :
    CB Tryd.prog 76 #[.pointer (some ⟨Be, 0, none⟩), .pointer (some ⟨Bs, 0, none⟩), .pointer (some ⟨Bg, 0, none⟩)] en64 (fun n => n < 2 ^ 60) max2 (PutInv Inv base s g Be Bs Bg ge lbe) where
  call := fun acc O W x hlen hx hI => putLit_any Inv ge lbe max C eg base s g Be Bs Bg hs hg acc O W x hx (by omega) hI
  move := fun acc O W W' hI hz ho ht hu hk => by
    obtain ⟨O1, h1, ce, cs, cg, hO, hne⟩ := hI
    exact ⟨O1, C.move _ O1 W W' h1 hz ho ht hu (fun k h => hk k ((hO k).2 (.inl h))), (World.cell?_of_block (w := W) (a := ⟨Be, 0, none⟩) (hk _ ((hO Be).2 (.inr (.inl rfl))))).trans ce, (World.cell?_of_block (w := W) (a := ⟨Bs, 0, none⟩) (hk _ ((hO Bs).2 (.inr (.inr (.inl rfl)))))).trans cs,
      (World.cell?_of_block (w := W) (a := ⟨Bg, 0, none⟩) (hk _ ((hO Bg).2 (.inr (.inr (.inr rfl)))))).trans cg, hO, hne⟩
  lt := fun acc O W hI k hk => by
    obtain ⟨O1, h1, ce, cs, cg, hO, hne⟩ := hI
    rcases (hO k).1 hk with h | rfl | rfl | rfl
    · exact C.lt _ O1 W h1 k h
    · exact World.block_lt_of_cell? W _ ce
    · exact World.block_lt_of_cell? W _ cs
    · exact World.block_lt_of_cell? W _ cg
theorem flatMap_one {f : Nat → Nat} : ∀ l : List Nat, (l.flatMap fun g => [f g]).length = l.length
  | [] => rfl
  | x :: l => by rw [List.flatMap_cons, List.length_append, flatMap_one l]; simp; omega
theorem flatMap_le {f : Nat → List Nat} {b : Nat} (h : ∀ g, (f g).length ≤ b) : ∀ l : List Nat, (l.flatMap f).length ≤ l.length * b
  | [] => by simp
  | x :: l => by
    have := flatMap_le h l
    have := h x
    rw [List.flatMap_cons, List.length_append, List.length_cons, Nat.succ_mul]
    omega
def GoneInv (Inv : List Nat → (Nat → Prop) → World → Prop) (w0 : World) (base : List Nat) (row : Array Value) (s Bw Be Bs ge : Nat) (lbe : Array Value) (pieces : Nat → List Nat) (acc : List Nat) (O : Nat → Prop) (W : World) : Prop :=
  ∃ O1, Inv (base ++ acc.flatMap pieces) O1 W ∧ Below w0.heap.size w0 W ∧ W.heap[Bw]? = some (.cells row 42 (0, 0)) ∧ W.cell? ⟨Be, 0, none⟩ = some (.func (.func ge) #[] lbe) ∧ W.cell? ⟨Bs, 0, none⟩ = some (.int .u64 (s : Int)) ∧
    (∀ k, O k ↔ O1 k ∨ k < w0.heap.size ∨ k = Bw ∨ k = Be ∨ k = Bs) ∧ ∀ k, O1 k → w0.heap.size ≤ k ∧ k ≠ Bw ∧ k ≠ Be ∧ k ≠ Bs
theorem GoneInv.next {Inv : List Nat → (Nat → Prop) → World → Prop} {w0 : World} {base : List Nat} {row : Array Value} {s Bw Be Bs ge : Nat} {lbe : Array Value} {pieces : Nat → List Nat} {acc : List Nat} {O O1 O9 : Nat → Prop} {W w9 : World} {g : Nat}
    (hB : Below w0.heap.size w0 W) (hw : W.heap[Bw]? = some (.cells row 42 (0, 0))) (ce : w9.cell? ⟨Be, 0, none⟩ = some (.func (.func ge) #[] lbe)) (cs : w9.cell? ⟨Bs, 0, none⟩ = some (.int .u64 (s : Int))) (hO : ∀ k, O k ↔ O1 k ∨ k < w0.heap.size ∨ k = Bw ∨ k = Be ∨ k = Bs)
    (hne : ∀ k, O1 k → w0.heap.size ≤ k ∧ k ≠ Bw ∧ k ≠ Be ∧ k ≠ Bs) (h9 : Inv (base ++ (acc ++ [g]).flatMap pieces) O9 w9) (hF : FrameBut (fun k => O1 k ∨ k = Be ∨ k = Bs) W w9) (hO9 : ∀ k, O9 k → O1 k ∨ W.heap.size ≤ k)
    (hbe : w0.heap.size ≤ Be ∧ Be < W.heap.size) (hbs : w0.heap.size ≤ Bs ∧ Bs < W.heap.size) (hbw : w0.heap.size ≤ Bw) (hwe : Bw ≠ Be) (hws : Bw ≠ Bs) :
    ∃ O', GoneInv Inv w0 base row s Bw Be Bs ge lbe pieces (acc ++ [g]) O' w9 ∧ FrameBut O W w9 ∧ ∀ k, O' k → O k ∨ W.heap.size ≤ k := by
  have bw : Bw < W.heap.size := (Array.getElem?_eq_some_iff.1 hw).1
  refine ⟨fun k => O9 k ∨ k < w0.heap.size ∨ k = Bw ∨ k = Be ∨ k = Bs, ⟨O9, h9, hB.trans (hF.toBelow hB.size (fun k hk h => ?_)), (hF.block Bw bw (fun h => ?_)).trans hw, ce, cs, fun k => Iff.rfl, fun k hk => ?_⟩, hF.mono (fun k _ h => ?_), fun k hk => ?_⟩
  · rcases h with h | h | h
    · have := (hne k h).1; omega
    · omega
    · omega
  · rcases h with h | h | h
    · exact (hne _ h).2.1 rfl
    · exact hwe h
    · exact hws h
  · rcases hO9 k hk with h | h
    · exact hne k h
    · have := hB.size; omega
  · rcases h with h | h | h
    · exact (hO k).2 (.inl h)
    · exact (hO k).2 (.inr (.inr (.inr (.inl h))))
    · exact (hO k).2 (.inr (.inr (.inr (.inr h))))
  · rcases hk with h | h
    · exact (hO9 k h).imp (fun h => (hO k).2 (.inl h)) id
    · exact .inl ((hO k).2 (.inr h))
set_option maxRecDepth 100000 in
set_option maxHeartbeats 8000000 in
theorem goneLit_take (Inv : List Nat → (Nat → Prop) → World → Prop) (ge : Nat) (lbe : Array Value) (max : Nat) (C : CB Tryd.prog ge lbe en64 (fun n => n < 2 ^ 60) max Inv) (eg : ∀ args w, (callFunc ge args).run Tryd.prog w = .ok (.enter ge args) w)
    (w0 : World) (base : List Nat) (fW fH : Int) (v2 v3 : Value) (mt : Int) (s Bw Be Bs : Nat) (hs : s < 2 ^ 60) (hbe : w0.heap.size ≤ Be) (hbs : w0.heap.size ≤ Bs) (hbw : w0.heap.size ≤ Bw) (hwe : Bw ≠ Be) (hws : Bw ≠ Bs)
    (acc : List Nat) (O : Nat → Prop) (W : World) (g : Nat) (hg : g < 2 ^ 60) (hmax : base.length + acc.length < max) (hI : GoneInv Inv w0 base #[.int .i64 fW, .int .i64 fH, v2, v3, .int .i64 mt, .bool false] s Bw Be Bs ge lbe (fun g => [diffN s g]) acc O W) :
    Calls Tryd.prog 74 #[.int .u64 (g : Int), .pointer (some ⟨Bw, 0, none⟩), .pointer (some ⟨Be, 0, none⟩), .pointer (some ⟨Bs, 0, none⟩)] W fun e w' => e = .returned (.tuple #[]) ∧ ∃ O', GoneInv Inv w0 base #[.int .i64 fW, .int .i64 fH, v2, v3, .int .i64 mt, .bool false] s Bw Be Bs ge lbe (fun g => [diffN s g]) (acc ++ [g]) O' w' ∧ FrameBut O W w' ∧ ∀ k, O' k → O k ∨ W.heap.size ≤ k := by
  obtain ⟨O1, h1, hB, hw, ce, cs, hO, hne⟩ := hI
  have be : Be < W.heap.size := World.block_lt_of_cell? W _ ce
  have bs : Bs < W.heap.size := World.block_lt_of_cell? W _ cs
  have c5 : W.cell? ⟨Bw, 5, none⟩ = some (.bool false) := (blk_cell hw 5).trans rfl
  have b5 : Bw < W.heap.size := World.block_lt_of_cell? W _ c5
  have e1 := andNot_u64 s g hs hg
  have HC := Aside0.mk (fun W' (h : Below W.heap.size W W') => C.call _ O1 W' _ (by rw [List.length_append, flatMap_one]; exact hmax) (diffN_lt g hs) (C.below h1 h))
  have HB := Aside0.mk hB
  have HW := Aside0.mk hw
  have HO := Aside0.mk hO
  have HN := Aside0.mk hne
  clear hB hw h1 hO hne hs hg hmax
  go_enter Tryd.func74, Tryd.ntmps74
  go_wp2_with ((go_at_fn ge; refine (HC.out _ ?xB).mono ?_; (case xB => exact below_alloc (Below.refl _ _) _); rintro e w' ⟨rfl, O', hI', hF, hO'⟩))
  have hF2 : FrameBut (fun k => O1 k ∨ k = Be ∨ k = Bs) W w' := (((FrameBut.refl _ W).alloc _).trans hF (fun k h => .inl h)).mono (fun k _ h => .inl h)
  refine bodyPost_ret (v := .tuple #[]) (by simp [results, Tryd.results74, go_sem]) rfl ⟨rfl, GoneInv.next HB.out HW.out ?_ ?_ HO.out HN.out (O9 := O') ?_ hF2 ?_ ⟨hbe, be⟩ ⟨hbs, bs⟩ hbw hwe hws⟩
  · exact hF.cell ((World.cell?_alloc_lt _ _ _ be).trans ce) (fun h => (HN.out _ h).2.2.1 rfl)
  · exact hF.cell ((World.cell?_alloc_lt _ _ _ bs).trans cs) (fun h => (HN.out _ h).2.2.2 rfl)
  · rw [List.flatMap_append, ← List.append_assoc]; simpa using hI'
  · exact fun k hk => (hO' k hk).imp id (fun h => by simp at h; omega)
def putsW (m all s g : Nat) : List Nat := (subsW m (bitsI (diffN all s)) 0).map fun p => diffN s g ||| p
theorem putsW_len (m all s g : Nat) : (putsW m all s g).length ≤ 64 ^ m := by
  unfold putsW
  rw [List.length_map]
  exact Nat.le_trans (subsW_len _ _ _) (Nat.pow_le_pow_left (bitsI_len _) _)
set_option maxRecDepth 100000 in
set_option maxHeartbeats 8000000 in
theorem goneLit_move (Inv : List Nat → (Nat → Prop) → World → Prop) (ge : Nat) (lbe : Array Value) (max : Nat) (C : CB Tryd.prog ge lbe en64 (fun n => n < 2 ^ 60) max Inv) (eg : ∀ args w, (callFunc ge args).run Tryd.prog w = .ok (.enter ge args) w)
    (w0 : World) (base : List Nat) (fW fH : Int) (A2 A3 : Option Addr) (c2 c3 : Nat) (l2 l3 : List Int) (hr2 : Kd.C (Kd.int .i64) w0 A2 l2.length l2) (hc2 : l2.length ≤ c2) (hr3 : Kd.C (Kd.int .i64) w0 A3 l3.length l3) (hc3 : l3.length ≤ c3) (hT : TB w0)
    (mt s al Bw Be Bs : Nat) (hm : mt ≤ 64) (hs : s < 2 ^ 60) (hal : al < 2 ^ 60) (ha : impl_grid_all.f fW fH = some (al : Int)) (hbe : w0.heap.size ≤ Be) (hbs : w0.heap.size ≤ Bs) (hbw : w0.heap.size ≤ Bw) (hwe : Bw ≠ Be) (hws : Bw ≠ Bs)
    (acc : List Nat) (O : Nat → Prop) (W : World) (g : Nat) (hg : g < 2 ^ 60) (hmax : base.length + (acc.length + 1) * 64 ^ mt ≤ max) (hI : GoneInv Inv w0 base #[.int .i64 fW, .int .i64 fH, .slice A2 l2.length c2, .slice A3 l3.length c3, .int .i64 (mt : Int), .bool true] s Bw Be Bs ge lbe (putsW mt al s) acc O W) :
    Calls Tryd.prog 74 #[.int .u64 (g : Int), .pointer (some ⟨Bw, 0, none⟩), .pointer (some ⟨Be, 0, none⟩), .pointer (some ⟨Bs, 0, none⟩)] W fun e w' => e = .returned (.tuple #[]) ∧ ∃ O', GoneInv Inv w0 base #[.int .i64 fW, .int .i64 fH, .slice A2 l2.length c2, .slice A3 l3.length c3, .int .i64 (mt : Int), .bool true] s Bw Be Bs ge lbe (putsW mt al s) (acc ++ [g]) O' w' ∧ FrameBut O W w' ∧ ∀ k, O' k → O k ∨ W.heap.size ≤ k := by
  have hmf : ∀ (fn : Fn) (first cap : Array Value) (w : World), (Instr.makeFunc fn first cap).run Tryd.prog w = .ok (.func fn first cap) w := fun _ _ _ _ => rfl
  have eg2 : ∀ args w, (callFunc 76 args).run Tryd.prog w = .ok (.enter 76 args) w := enters_of Tryd.func76 (by kernel_rfl) rfl
  obtain ⟨O1, h1, hB, hw, ce, cs, hO, hne⟩ := hI
  have be : Be < W.heap.size := World.block_lt_of_cell? W _ ce
  have bs : Bs < W.heap.size := World.block_lt_of_cell? W _ cs
  have q0 : W.cell? ⟨Bw, 0, none⟩ = some (.int .i64 fW) := (blk_cell hw 0).trans rfl
  have q1 : W.cell? ⟨Bw, 1, none⟩ = some (.int .i64 fH) := (blk_cell hw 1).trans rfl
  have q2 : W.cell? ⟨Bw, 2, none⟩ = some (.slice A2 l2.length c2) := (blk_cell hw 2).trans rfl
  have q3 : W.cell? ⟨Bw, 3, none⟩ = some (.slice A3 l3.length c3) := (blk_cell hw 3).trans rfl
  have q4 : W.cell? ⟨Bw, 4, none⟩ = some (.int .i64 (mt : Int)) := (blk_cell hw 4).trans rfl
  have q5 : W.cell? ⟨Bw, 5, none⟩ = some (.bool true) := (blk_cell hw 5).trans rfl
  have b5 : Bw < W.heap.size := World.block_lt_of_cell? W _ q5
  have e1 := andNot_u64 al s hal hs
  have hmax2 : (base ++ acc.flatMap (putsW mt al s)).length + 64 ^ mt ≤ max := by
    have := flatMap_le (putsW_len mt al s) acc
    rw [List.length_append]
    rw [Nat.succ_mul] at hmax
    omega
  have C2 := putCB Inv ge lbe max (64 ^ mt) C eg (base ++ acc.flatMap (putsW mt al s)) s g Be Bs W.heap.size hs hg hmax2
  have HC : Aside0 (∀ W', Below W.heap.size W W' → W'.cell? ⟨W.heap.size, 0, none⟩ = some (.int .u64 (g : Int)) → Calls Tryd.prog 73 #[.int .u64 ((diffN al s : Nat) : Int), .int .i64 (mt : Int), .func (.func 76) #[] #[.pointer (some ⟨Be, 0, none⟩), .pointer (some ⟨Bs, 0, none⟩), .pointer (some ⟨W.heap.size, 0, none⟩)]] W'
      fun e w' => e = .returned (.tuple #[]) ∧ ∃ O', GoneInv Inv w0 base #[.int .i64 fW, .int .i64 fH, .slice A2 l2.length c2, .slice A3 l3.length c3, .int .i64 (mt : Int), .bool true] s Bw Be Bs ge lbe (putsW mt al s) (acc ++ [g]) O' w' ∧ FrameBut O W w' ∧ ∀ k, O' k → O k ∨ W.heap.size ≤ k) := ⟨fun W' hW hgc => by
    have hgb : W.heap.size < W'.heap.size := World.block_lt_of_cell? W' _ hgc
    have O1lt : ∀ k, O1 k → k < W.heap.size := fun k hk => C.lt _ O1 W h1 k hk
    refine (subsets_any 76 _ (64 ^ mt) _ C2 eg2 (diffN al s) mt (diffN_lt s hal) hm [] (fun k => O1 k ∨ k = Be ∨ k = Bs ∨ k = W.heap.size) W' (hT.below (hB.trans (hW.mono hB.size)))
      ⟨O1, by rw [List.map_nil, List.append_nil]; exact C.below h1 hW, pw_cell_below hW ce, pw_cell_below hW cs, hgc, fun k => Iff.rfl, fun k hk => ⟨(hne k hk).2.2.1, (hne k hk).2.2.2, fun h => by have := O1lt k hk; omega⟩⟩ ?_).mono ?_
    · rw [List.length_nil, Nat.zero_add]; exact Nat.le_trans (subsW_len _ _ _) (Nat.pow_le_pow_left (bitsI_len _) _)
    · rintro e w9 ⟨rfl, O', ⟨O9, h9, ce9, cs9, cg9, hO9, hn9⟩, hF, hO'⟩
      have hFW : FrameBut (fun k => O1 k ∨ k = Be ∨ k = Bs) W w9 := (FrameBut.of_below hW).trans hF (fun k hk => by
        rcases hk with h | h | h | h
        · exact .inl (.inl h)
        · exact .inl (.inr (.inl h))
        · exact .inl (.inr (.inr h))
        · exact .inr (Nat.le_of_eq h.symm))
      refine ⟨rfl, GoneInv.next hB hw ce9 cs9 hO hne (O9 := O9) ?_ hFW ?_ ⟨hbe, be⟩ ⟨hbs, bs⟩ hbw hwe hws⟩
      · rw [List.nil_append, List.append_assoc] at h9
        rw [List.flatMap_append]
        simpa [putsW] using h9
      · intro k hk
        have hn := hn9 k hk
        rcases hO' k ((hO9 k).2 (.inl hk)) with h | h
        · rcases h with h | h | h | h
          · exact .inl h
          · exact absurd h hn.1
          · exact absurd h hn.2.1
          · exact absurd h hn.2.2
        · exact .inr (Nat.le_trans hW.size h)⟩
  have HR2 := Aside0.mk (Kd.C_below hr2 hB)
  have HR3 := Aside0.mk (Kd.C_below hr3 hB)
  have HA := Aside0.mk ha
  have HQ2 := Aside0.mk hc2
  have HQ3 := Aside0.mk hc3
  clear h1 hB hw hO hne hs hg hmax hmax2 C2 hal ha hr2 hr3 hT hc2 hc3 hm eg eg2
  generalize diffN al s = fr at e1 HC
  go_enter Tryd.func74, Tryd.ntmps74
  go_wp2_with fail
  have hB1 := Aside0.mk (below_drew (below_alloc (Below.refl W.heap.size W) (.cells #[.int .u64 (g : Int)] 68)))
  go_region_held3 (fun w' => w'.cell? ⟨Bw, 0, none⟩ = some (.int .i64 fW) ∧ w'.cell? ⟨Bw, 1, none⟩ = some (.int .i64 fH) ∧ w'.cell? ⟨Bw, 2, none⟩ = some (.slice A2 l2.length c2) ∧ w'.cell? ⟨Bw, 3, none⟩ = some (.slice A3 l3.length c3) ∧ w'.cell? ⟨Bw, 4, none⟩ = some (.int .i64 (mt : Int)) ∧ w'.cell? ⟨Bs, 0, none⟩ = some (.int .u64 (s : Int)))
    (first
      | exact ⟨pw_cell_below (below_alloc (Below.refl _ _) _) q0, pw_cell_below (below_alloc (Below.refl _ _) _) q1, pw_cell_below (below_alloc (Below.refl _ _) _) q2, pw_cell_below (below_alloc (Below.refl _ _) _) q3, pw_cell_below (below_alloc (Below.refl _ _) _) q4, pw_cell_below (below_alloc (Below.refl _ _) _) cs⟩
      | (obtain ⟨O9, ⟨O8, _, _, hw9, _, cs9, _⟩, _⟩ := h9; exact ⟨(blk_cell hw9 0).trans rfl, (blk_cell hw9 1).trans rfl, (blk_cell hw9 2).trans rfl, (blk_cell hw9 3).trans rfl, (blk_cell hw9 4).trans rfl, cs9⟩)
      | (go_split_ands; exact ⟨pw_cell_below hby (by assumption), pw_cell_below hby (by assumption), pw_cell_below hby (by assumption), pw_cell_below hby (by assumption), pw_cell_below hby (by assumption), pw_cell_below hby (by assumption)⟩)
      | (go_split_ands; exact ⟨pw_cell_below hbx (by assumption), pw_cell_below hbx (by assumption), pw_cell_below hbx (by assumption), pw_cell_below hbx (by assumption), pw_cell_below hbx (by assumption), pw_cell_below hbx (by assumption)⟩))
    ((first
      | (go_at_call 54; go_split_ands; refine (impl_Figure_grid.calls fW fH A2 c2 l2 A3 c3 l3 fW fH _ (Kd.C_below HR2.out hB1.out) HQ2.out (Kd.C_below HR3.out hB1.out) HQ3.out rfl).mono ?_; rintro e wx ⟨rfl, hbx⟩)
      | (go_at_call 75; go_split_ands; refine (impl_grid_all.calls fW fH _ _ HA.out).mono ?_; rintro e wy ⟨rfl, hby⟩)
      | (go_at_call 73; refine (HC.out _ (below_step (below_step hB1.out hbx) hby) (pw_cell_below hby (pw_cell_below hbx (pw_cell_below (below_drew (Below.refl _ _)) (World.cell?_alloc_at _ _ _ _ rfl))))).mono ?_; rintro e w9 ⟨rfl, h9⟩)))
  all_goals
    have H9 := Aside0.mk h9
    clear h9
    go_wp2
    exact bodyPost_end (v := .tuple #[]) (by simp [results, Tryd.results74, go_sem]) rfl ⟨rfl, H9.out⟩
theorem GoneInv.move {Inv : List Nat → (Nat → Prop) → World → Prop} {ge : Nat} {lbe : Array Value} {max : Nat} (C : CB Tryd.prog ge lbe en64 (fun n => n < 2 ^ 60) max Inv) {w0 : World} {base : List Nat} {row : Array Value} {s Bw Be Bs : Nat} {pieces : Nat → List Nat} {acc : List Nat} {O : Nat → Prop} {W W' : World}
    (hI : GoneInv Inv w0 base row s Bw Be Bs ge lbe pieces acc O W) (hz : W.heap.size ≤ W'.heap.size) (ho : W'.os = W.os) (ht : W'.tape = W.tape) (hu : W'.output = W.output) (hk : ∀ k, O k → W'.heap[k]? = W.heap[k]?) : GoneInv Inv w0 base row s Bw Be Bs ge lbe pieces acc O W' := by
  obtain ⟨O1, h1, hB, hw, ce, cs, hO, hne⟩ := hI
  exact ⟨O1, C.move _ O1 W W' h1 hz ho ht hu (fun k h => hk k ((hO k).2 (.inl h))), ⟨ho.trans hB.os, ht.trans hB.tape, hu.trans hB.output, Nat.le_trans hB.size hz, fun k h => (hk k ((hO k).2 (.inr (.inl h)))).trans (hB.block k h)⟩, (hk _ ((hO Bw).2 (.inr (.inr (.inl rfl))))).trans hw,
    (World.cell?_of_block (w := W) (a := ⟨Be, 0, none⟩) (hk _ ((hO Be).2 (.inr (.inr (.inr (.inl rfl))))))).trans ce, (World.cell?_of_block (w := W) (a := ⟨Bs, 0, none⟩) (hk _ ((hO Bs).2 (.inr (.inr (.inr (.inr rfl))))))).trans cs, hO, hne⟩
theorem GoneInv.lt {Inv : List Nat → (Nat → Prop) → World → Prop} {ge : Nat} {lbe : Array Value} {max : Nat} (C : CB Tryd.prog ge lbe en64 (fun n => n < 2 ^ 60) max Inv) {w0 : World} {base : List Nat} {row : Array Value} {s Bw Be Bs : Nat} {pieces : Nat → List Nat} {acc : List Nat} {O : Nat → Prop} {W : World}
    (hI : GoneInv Inv w0 base row s Bw Be Bs ge lbe pieces acc O W) (k : Nat) (hk : O k) : k < W.heap.size := by
  obtain ⟨O1, h1, hB, hw, ce, cs, hO, hne⟩ := hI
  rcases (hO k).1 hk with h | h | rfl | rfl | rfl
  · exact C.lt _ O1 W h1 k h
  · exact Nat.lt_of_lt_of_le h hB.size
  · exact (Array.getElem?_eq_some_iff.1 hw).1
  · exact World.block_lt_of_cell? W _ ce
  · exact World.block_lt_of_cell? W _ cs
set_option maxRecDepth 100000 in
set_option maxHeartbeats 8000000 in
theorem each_gen (Inv : List Nat → (Nat → Prop) → World → Prop) (ge : Nat) (lbe : Array Value) (max : Nat) (C : CB Tryd.prog ge lbe en64 (fun n => n < 2 ^ 60) max Inv) (K : Nat)
    (fW fH : Int) (A2 A3 : Option Addr) (c2 c3 : Nat) (l2 l3 : List Int) (mt s : Nat) (mv : Bool) (pieces : Nat → List Nat) (max1 : Nat) (w0 : World) (acc : List Nat) (O : Nat → Prop) (w : World)
    (hr2 : Kd.C (Kd.int .i64) w0 A2 l2.length l2) (hc2 : l2.length ≤ c2) (hr3 : Kd.C (Kd.int .i64) w0 A3 l3.length l3) (hc3 : l3.length ≤ c3) (hT : TB w0) (hm : mt ≤ 64) (hs : s < 2 ^ 60) (hset : impl_Figure_set.f K fW fH l2 l3 = some (s : Int))
    (C1 : ∀ Bw Be Bs, w0.heap.size ≤ Bw → w0.heap.size ≤ Be → w0.heap.size ≤ Bs → Bw ≠ Be → Bw ≠ Bs → CB Tryd.prog 74 #[.pointer (some ⟨Bw, 0, none⟩), .pointer (some ⟨Be, 0, none⟩), .pointer (some ⟨Bs, 0, none⟩)] en64 (fun n => n < 2 ^ 60) max1 (GoneInv Inv w0 acc #[.int .i64 fW, .int .i64 fH, .slice A2 l2.length c2, .slice A3 l3.length c3, .int .i64 (mt : Int), .bool mv] s Bw Be Bs ge lbe pieces))
    (hB0 : Below w0.heap.size w0 w) (hO : ∀ k, O k → w0.heap.size ≤ k) (hI : Inv acc O w) (hmax : 64 ^ mt ≤ max1) :
    Calls Tryd.prog 56 #[.agg #[.int .i64 fW, .int .i64 fH, .slice A2 l2.length c2, .slice A3 l3.length c3, .int .i64 (mt : Int), .bool mv], .func (.func ge) #[] lbe] w (EachPost acc ((subsW mt (bitsI s) 0).flatMap pieces) O Inv w) := by
  have hmf : ∀ (fn : Fn) (first cap : Array Value) (w : World), (Instr.makeFunc fn first cap).run Tryd.prog w = .ok (.func fn first cap) w := fun _ _ _ _ => rfl
  have eg1 : ∀ args w, (callFunc 74 args).run Tryd.prog w = .ok (.enter 74 args) w := enters_of Tryd.func74 (by kernel_rfl) rfl
  have HC : Aside0 (∀ W Bw Be Bs, Below w.heap.size w W → w.heap.size ≤ Bw → w.heap.size ≤ Be → w.heap.size ≤ Bs → Bw ≠ Be → Bw ≠ Bs → W.heap[Bw]? = some (.cells #[.int .i64 fW, .int .i64 fH, .slice A2 l2.length c2, .slice A3 l3.length c3, .int .i64 (mt : Int), .bool mv] 42 (0, 0)) → W.cell? ⟨Be, 0, none⟩ = some (.func (.func ge) #[] lbe) → W.cell? ⟨Bs, 0, none⟩ = some (.int .u64 (s : Int)) →
      Calls Tryd.prog 73 #[.int .u64 (s : Int), .int .i64 (mt : Int), .func (.func 74) #[] #[.pointer (some ⟨Bw, 0, none⟩), .pointer (some ⟨Be, 0, none⟩), .pointer (some ⟨Bs, 0, none⟩)]] W (EachPost acc ((subsW mt (bitsI s) 0).flatMap pieces) O Inv w)) := ⟨fun W Bw Be Bs hW h1 h2 h3 hwe hws hw ce cs => by
    have hz := hB0.size
    have Olt : ∀ k, O k → k < w.heap.size := fun k hk => C.lt _ O w hI k hk
    refine (subsets_any 74 _ max1 _ (C1 Bw Be Bs (by omega) (by omega) (by omega) hwe hws) eg1 s mt hs hm [] (fun k => O k ∨ k < w0.heap.size ∨ k = Bw ∨ k = Be ∨ k = Bs) W (hT.below (hB0.trans (hW.mono hz)))
      ⟨O, by rw [List.flatMap_nil, List.append_nil]; exact C.below hI hW, hB0.trans (hW.mono hz), hw, ce, cs, fun k => Iff.rfl, fun k hk => ⟨hO k hk, by have := Olt k hk; omega, by have := Olt k hk; omega, by have := Olt k hk; omega⟩⟩ ?_).mono ?_
    · rw [List.length_nil, Nat.zero_add]; exact Nat.le_trans (Nat.le_trans (subsW_len _ _ _) (Nat.pow_le_pow_left (bitsI_len _) _)) hmax
    · rintro e w9 ⟨rfl, O', ⟨O9, h9, hB9, hw9, ce9, cs9, hO9, hn9⟩, hF, hO'⟩
      refine ⟨rfl, O9, by rw [List.nil_append] at h9; exact h9, ⟨hF.os.trans hW.os, hF.tape.trans hW.tape, hF.output.trans hW.output, Nat.le_trans hW.size hF.size, fun k hk hn => ?_⟩, fun k hk => ?_⟩
      · rcases Nat.lt_or_ge k w0.heap.size with hlt | hge
        · rw [hB9.block k hlt, hB0.block k hlt]
        · rw [hF.block k (Nat.lt_of_lt_of_le hk hW.size) (fun h => by rcases h with h | h | h | h | h <;> first | exact hn h | omega), hW.block k hk]
      · have hn := hn9 k hk
        rcases hO' k ((hO9 k).2 (.inl hk)) with h | h
        · rcases h with h | h | h | h | h
          · exact .inl h
          · omega
          · exact absurd h hn.2.1
          · exact absurd h hn.2.2.1
          · exact absurd h hn.2.2.2
        · exact .inr (Nat.le_trans hW.size h)⟩
  have HR2 := Aside0.mk (Kd.C_below hr2 hB0)
  have HR3 := Aside0.mk (Kd.C_below hr3 hB0)
  have HS := Aside0.mk hset
  have HQ2 := Aside0.mk hc2
  have HQ3 := Aside0.mk hc3
  clear hr2 hr3 hset hc2 hc3 hB0 hO hI hmax hm hs hT eg1 C1
  generalize (subsW mt (bitsI s) 0).flatMap pieces = R at HC ⊢
  go_enter Tryd.func56, Tryd.ntmps56
  go_wp2_with fail
  go_at_call 72
  refine (impl_Figure_set.calls K fW fH A2 c2 l2 A3 c3 l3 _ _ (Kd.C_alloc (Kd.C_alloc HR2.out _) _) HQ2.out (Kd.C_alloc (Kd.C_alloc HR3.out _) _) HQ3.out HS.out).mono ?_
  rintro e w1 ⟨rfl, hb⟩
  have Q0 : w1.heap[w.heap.size]? = some (.cells #[.int .i64 fW, .int .i64 fH, .slice A2 l2.length c2, .slice A3 l3.length c3, .int .i64 (mt : Int), .bool mv] 42 (0, 0)) := blk_keep (blk_alloc (heap_alloc_new w _) _) hb
  have ce : w1.cell? ⟨w.heap.size + 1, 0, none⟩ = some (.func (.func ge) #[] lbe) := pw_cell_below hb (World.cell?_alloc_at _ _ _ _ (by simp))
  have q4 : w1.cell? ⟨w.heap.size, 4, none⟩ = some (.int .i64 (mt : Int)) := (blk_cell Q0 4).trans rfl
  have hz : w.heap.size + 2 ≤ w1.heap.size := by have h_ := hb.size; simp at h_; omega
  have hz2 : w.heap.size < w1.heap.size := by omega
  have HB := Aside0.mk (below_step (below_alloc (below_alloc (Below.refl w.heap.size w) _) _) hb)
  have HQ := Aside0.mk Q0
  clear hb Q0
  go_wp2_with fail
  go_at_call 73
  refine (HC.out _ w.heap.size (w.heap.size + 1) w1.heap.size ?xb (Nat.le_refl _) (by omega) (by omega) (by omega) (by omega) ?xq ?xe ?xs).mono ?_
  · exact below_alloc HB.out _
  · exact blk_alloc HQ.out _
  · exact pw_cell_below (below_alloc (Below.refl _ _) _) ce
  · exact World.cell?_alloc_at _ _ _ _ rfl
  rintro e w9 ⟨rfl, h9⟩
  have H9 : Aside0 (EachPost acc R O Inv w (.returned (.tuple #[])) w9) := ⟨rfl, h9⟩
  clear h9
  go_wp2
  exact bodyPost_end (v := .tuple #[]) (by simp [results, Tryd.results56, go_sem]) rfl H9.out
def piecesW (mv : Bool) (mt al s : Nat) : Nat → List Nat := if mv then putsW mt al s else fun g => [diffN s g]
def waysW (mv : Bool) (mt al s : Nat) : List Nat := (subsW mt (bitsI s) 0).flatMap (piecesW mv mt al s)
theorem each_any (Inv : List Nat → (Nat → Prop) → World → Prop) (ge : Nat) (lbe : Array Value) (C : CB Tryd.prog ge lbe en64 (fun n => n < 2 ^ 60) (64 ^ 4) Inv) (eg : ∀ args w, (callFunc ge args).run Tryd.prog w = .ok (.enter ge args) w) (K : Nat)
    (fW fH : Int) (A2 A3 : Option Addr) (c2 c3 : Nat) (l2 l3 : List Int) (mt s al : Nat) (mv : Bool) (w0 : World) (O : Nat → Prop) (w : World)
    (hr2 : Kd.C (Kd.int .i64) w0 A2 l2.length l2) (hc2 : l2.length ≤ c2) (hr3 : Kd.C (Kd.int .i64) w0 A3 l3.length l3) (hc3 : l3.length ≤ c3) (hT : TB w0) (hm : mt ≤ if mv then 2 else 4) (hs : s < 2 ^ 60) (hal : al < 2 ^ 60) (hset : impl_Figure_set.f K fW fH l2 l3 = some (s : Int)) (ha : impl_grid_all.f fW fH = some (al : Int))
    (hB0 : Below w0.heap.size w0 w) (hO : ∀ k, O k → w0.heap.size ≤ k) (hI : Inv [] O w) :
    Calls Tryd.prog 56 #[.agg #[.int .i64 fW, .int .i64 fH, .slice A2 l2.length c2, .slice A3 l3.length c3, .int .i64 (mt : Int), .bool mv], .func (.func ge) #[] lbe] w (EachPost [] (waysW mv mt al s) O Inv w) := by
  unfold waysW piecesW
  cases mv with
  | false =>
    refine each_gen Inv ge lbe (64 ^ 4) C K fW fH A2 A3 c2 c3 l2 l3 mt s false _ (64 ^ 4) w0 [] O w hr2 hc2 hr3 hc3 hT (by simp at hm; omega) hs hset ?_ hB0 hO hI (Nat.pow_le_pow_right (by omega) (by simpa using hm))
    intro Bw Be Bs h1 h2 h3 h4 h5
    exact { call := fun acc O W x hlen hx hI => goneLit_take Inv ge lbe (64 ^ 4) C eg w0 [] fW fH _ _ (mt : Int) s Bw Be Bs hs h2 h3 h1 h4 h5 acc O W x hx (by simpa using hlen) hI
            move := fun acc O W W' hI hz ho ht hu hk => hI.move C hz ho ht hu hk
            lt := fun acc O W hI k hk => hI.lt C k hk }
  | true =>
    have hm2 : mt ≤ 2 := by simpa using hm
    refine each_gen Inv ge lbe (64 ^ 4) C K fW fH A2 A3 c2 c3 l2 l3 mt s true _ (64 ^ 2) w0 [] O w hr2 hc2 hr3 hc3 hT (by omega) hs hset ?_ hB0 hO hI (Nat.pow_le_pow_right (by omega) hm2)
    intro Bw Be Bs h1 h2 h3 h4 h5
    exact { call := fun acc O W x hlen hx hI => goneLit_move Inv ge lbe (64 ^ 4) C eg w0 [] fW fH A2 A3 c2 c3 l2 l3 hr2 hc2 hr3 hc3 hT mt s al Bw Be Bs (by omega) hs hal ha h2 h3 h1 h4 h5 acc O W x hx (by
              have h6 : 64 ^ mt ≤ 64 ^ 2 := Nat.pow_le_pow_right (by omega) hm2
              have h7 : (acc.length + 1) * 64 ^ mt ≤ 64 ^ 2 * 64 ^ 2 := Nat.mul_le_mul hlen h6
              simpa using h7) hI
            move := fun acc O W W' hI hz ho ht hu hk => hI.move C hz ho ht hu hk
            lt := fun acc O W hI k hk => hI.lt C k hk }
theorem waysW_lt {mv : Bool} {mt al s : Nat} (hs : s < 2 ^ 60) (hal : al < 2 ^ 60) : ∀ z ∈ waysW mv mt al s, z < 2 ^ 60 := by
  intro z hz
  obtain ⟨g, -, hz⟩ := List.mem_flatMap.1 hz
  unfold piecesW at hz
  cases mv with
  | false => simp at hz; rw [hz]; exact diffN_lt g hs
  | true =>
    simp only [if_true, putsW, List.mem_map] at hz
    obtain ⟨p, hp, rfl⟩ := hz
    exact or_lt60 (diffN_lt g hs) (subsW_lt mt _ 0 (by decide) (bitsI_lt _ (diffN_lt s hal)) p hp)

end Go.Proofs.YtgakmcoeccmkbaaDoor.P


namespace Go.Proofs.YtgakmcoeccmkbaaDoor.P
open Go.RowKit Go.Proofs.YtgakmcoeccmkbaaDoorW.PrintWords Go.Proofs.YtgakmcoeccmkbaaDoorW.PrintLast Go.Proofs.YtgakmcoeccmkbaaDoorW.PrintMore
attribute [local go_sem] max2_int min2_int max_two min_two max_three min_three max_four min_four   -- for this text's walks alone
set_option linter.unusedVariables false
set_option linter.unusedSimpArgs false

def setI (l : List Nat) : List Int := l.map fun n : Nat => (n : Int)
def WithInv (Bl Bq Bt Bo base : Nat) (A : Option Addr) (c : Nat) (L : List S83) (sq : Int) (td : Bool) (p : Nat → Bool) (acc : List Nat) (O : Nat → Prop) (W : World) : Prop :=
  ∃ v, W.cell? ⟨Bo, 0, none⟩ = some v ∧ W.frozen? ⟨Bo, 0, none⟩ = false ∧ W.cell? ⟨Bl, 0, none⟩ = some (.slice A L.length c) ∧ W.cell? ⟨Bq, 0, none⟩ = some (.int .i64 sq) ∧ W.cell? ⟨Bt, 0, none⟩ = some (.bool td) ∧
    Kd.R k83 83 W base (fun k => some k = (Value.slice A L.length c).ownBlock) (.slice A L.length c) L ∧
    Kd.R (Kd.int .u64) 68 W base (fun k => k ≠ Bo ∧ k ≠ Bl ∧ k ≠ Bq ∧ k ≠ Bt ∧ some k ≠ (Value.slice A L.length c).ownBlock) v (setI (acc.filter p)) ∧
    ∀ k, O k ↔ (k = Bo ∨ k = Bl ∨ k = Bq ∨ k = Bt ∨ some k = (Value.slice A L.length c).ownBlock) ∨ some k = v.ownBlock
theorem WithInv.move {Bl Bq Bt Bo base : Nat} {A : Option Addr} {c : Nat} {L : List S83} {sq : Int} {td : Bool} {p : Nat → Bool} {acc : List Nat} {O : Nat → Prop} {W W' : World} (hI : WithInv Bl Bq Bt Bo base A c L sq td p acc O W) (hk : ∀ k, O k → W'.heap[k]? = W.heap[k]?) : WithInv Bl Bq Bt Bo base A c L sq td p acc O W' := by
  obtain ⟨v, co, fo, cl, cq, ct, hL, hR, hO⟩ := hI
  have ho := hk Bo ((hO Bo).2 (.inl (.inl rfl)))
  have hl := hk Bl ((hO Bl).2 (.inl (.inr (.inl rfl))))
  have hq := hk Bq ((hO Bq).2 (.inl (.inr (.inr (.inl rfl)))))
  have ht := hk Bt ((hO Bt).2 (.inl (.inr (.inr (.inr (.inl rfl))))))
  exact ⟨v, (World.cell?_of_block (w := W) (a := ⟨Bo, 0, none⟩) ho).trans co, (World.frozen?_of_block (w := W) (a := ⟨Bo, 0, none⟩) ho).trans fo, (World.cell?_of_block (w := W) (a := ⟨Bl, 0, none⟩) hl).trans cl, (World.cell?_of_block (w := W) (a := ⟨Bq, 0, none⟩) hq).trans cq, (World.cell?_of_block (w := W) (a := ⟨Bt, 0, none⟩) ht).trans ct,
    Kd.R_move hL (fun k h => hk k ((hO k).2 (.inl (.inr (.inr (.inr (.inr h))))))), Kd.R_mono (Kd.R_move (Kd.R_tight rfl hR) (fun k h => hk k ((hO k).2 (.inr h)))) (fun k h => hR.1 k h.symm), hO⟩
theorem WithInv.lt {Bl Bq Bt Bo base : Nat} {A : Option Addr} {c : Nat} {L : List S83} {sq : Int} {td : Bool} {p : Nat → Bool} {acc : List Nat} {O : Nat → Prop} {W : World} (hI : WithInv Bl Bq Bt Bo base A c L sq td p acc O W) (k : Nat) (hk : O k) : k < W.heap.size := by
  obtain ⟨v, co, fo, cl, cq, ct, hL, hR, hO⟩ := hI
  rcases (hO k).1 hk with (rfl | rfl | rfl | rfl | h) | h
  · exact World.block_lt_of_cell? W _ co
  · exact World.block_lt_of_cell? W _ cl
  · exact World.block_lt_of_cell? W _ cq
  · exact World.block_lt_of_cell? W _ ct
  · exact Kd.R_lt hL k h.symm
  · exact Kd.R_lt hR k h.symm
theorem WithInv.skip {Bl Bq Bt Bo base : Nat} {A : Option Addr} {c : Nat} {L : List S83} {sq : Int} {td : Bool} {p : Nat → Bool} {acc : List Nat} {O : Nat → Prop} {W W' : World} {x : Nat} (hI : WithInv Bl Bq Bt Bo base A c L sq td p acc O W) (hx : p x = false) (hB : Below W.heap.size W W') : WithInv Bl Bq Bt Bo base A c L sq td p (acc ++ [x]) O W' := by
  have h := hI.move (W' := W') (fun k hk => hB.block k (hI.lt k hk))
  unfold WithInv at h ⊢
  rw [List.filter_append, List.filter_cons_of_neg (by rw [hx]; simp), List.filter_nil, List.append_nil]
  exact h
attribute [local go_sem] undef in
attribute [local go_sem] undef in
theorem cell_new {w : World} {c : Array Value} {t : TypeId} {n i : Nat} {v : Value} (hn : n = w.heap.size) (hv : c[i]? = some v) : (w.alloc (.cells c t)).cell? ⟨n, i, none⟩ = some v := (World.cell?_alloc_at (w := w) c t n i hn).trans hv
theorem frozen_new {w : World} {c : Array Value} {t : TypeId} {n i : Nat} (hn : n = w.heap.size) : (w.alloc (.cells c t)).frozen? ⟨n, i, none⟩ = false := by subst hn; go_simp
end Go.Proofs.YtgakmcoeccmkbaaDoor.P


namespace Go.Proofs.YtgakmcoeccmkbaaDoor.P
open Go.RowKit Go.Proofs.YtgakmcoeccmkbaaDoorW.PrintWords Go.Proofs.YtgakmcoeccmkbaaDoorW.PrintLast Go.Proofs.YtgakmcoeccmkbaaDoorW.PrintMore
attribute [local go_sem] max2_int min2_int max_two min_two max_three min_three max_four min_four   -- for this text's walks alone
set_option linter.unusedVariables false
set_option linter.unusedSimpArgs false

def impl_way_isRight.f (k : Nat) (a0_0 : Int) (a0_1 : Int) (l0_2 : List Int) (l0_3 : List Int) (a0_4 : Int) (a0_5 : Bool) : Option (Bool) := if a0_5 = true then ((impl_isFew.f k a0_0 a0_1 l0_2 l0_3).bind fun t210 => (if t210 = true then ((impl_within.f a0_4 0 2).bind fun t211 => (some t211)) else (some false))) else ((impl_isFew.f k a0_0 a0_1 l0_2 l0_3).bind fun t212 => (if t212 = true then ((impl_within.f a0_4 0 4).bind fun t213 => (some t213)) else (some false)))
theorem impl_way_isRight.mono : ∀ a0 a1 a2 a3 a4 a5 k, LeO (impl_way_isRight.f k a0 a1 a2 a3 a4 a5) (impl_way_isRight.f (k + 1) a0 a1 a2 a3 a4 a5) := by
  intro a0 a1 a2 a3 a4 a5 k
  unfold impl_way_isRight.f
  repeat' first
      | (with_reducible exact impl_isFew.mono _ _ _ _ _)
      | (with_reducible exact LeO.refl _)
      | (with_reducible exact LeO.none _)
      | (with_reducible refine LeO.ite ?_ ?_)
      | (with_reducible refine LeO.bind ?_ (fun _ => ?_))
      | exact impl_isFew.mono _ _ _ _ _
      | exact LeO.none _
      | refine LeO.ite ?_ ?_
      | refine LeO.bind ?_ (fun _ => ?_)
set_option maxHeartbeats 8000000 in
set_option maxRecDepth 100000 in
theorem impl_way_isRight.calls (k : Nat) (a0_0 : Int) (a0_1 : Int) (A0_2 : Option Addr) (c0_2 : Nat) (l0_2 : List Int) (A0_3 : Option Addr) (c0_3 : Nat) (l0_3 : List Int) (a0_4 : Int) (a0_5 : Bool) (r : Bool) (w : World) (hr0_2 : Kd.C (Kd.int .i64) w A0_2 l0_2.length l0_2) (hc0_2 : l0_2.length ≤ c0_2) (hr0_3 : Kd.C (Kd.int .i64) w A0_3 l0_3.length l0_3) (hc0_3 : l0_3.length ≤ c0_3) (h : impl_way_isRight.f k a0_0 a0_1 l0_2 l0_3 a0_4 a0_5 = some r) :
    Calls Tryd.prog 47 #[.agg #[.int .i64 a0_0, .int .i64 a0_1, .slice A0_2 l0_2.length c0_2, .slice A0_3 l0_3.length c0_3, .int .i64 a0_4, .bool a0_5]] w fun e w' => e = .returned (.bool r) ∧ Below w.heap.size w w' := by
  have hu42 := Tryd.underlying42
  have hu28 := Tryd.underlying28
  have HR0_2 := Aside0.mk hr0_2
  have HC0_2 := Aside0.mk hc0_2
  clear hr0_2 hc0_2
  have HR0_3 := Aside0.mk hr0_3
  have HC0_3 := Aside0.mk hc0_3
  clear hr0_3 hc0_3
  have HB := Aside0.mk (Below.refl w.heap.size w)
  have H : (if a0_5 = true then ((impl_isFew.f k a0_0 a0_1 l0_2 l0_3).bind fun t210 => (if t210 = true then ((impl_within.f a0_4 0 2).bind fun t211 => (some t211)) else (some false))) else ((impl_isFew.f k a0_0 a0_1 l0_2 l0_3).bind fun t212 => (if t212 = true then ((impl_within.f a0_4 0 4).bind fun t213 => (some t213)) else (some false)))) = some r := h
  clear h
  by_cases c2 : a0_5 = true
  · subst c2
    have H1 : ((impl_isFew.f k a0_0 a0_1 l0_2 l0_3).bind fun t210 => (if t210 = true then ((impl_within.f a0_4 0 2).bind fun t211 => (some t211)) else (some false))) = some r := by rw [if_pos rfl] at H; exact H
    clear H
    have H := H1
    clear H1
    replace H := Option.bind_eq_some_iff.mp H
    obtain ⟨t210, A30, H⟩ := H
    replace H : (if t210 = true then ((impl_within.f a0_4 0 2).bind fun t211 => (some t211)) else (some false)) = some r := H
    have A3 := Aside0.mk A30
    clear A30
    by_cases c4 : t210 = true
    · subst c4
      have H1 : ((impl_within.f a0_4 0 2).bind fun t211 => (some t211)) = some r := by rw [if_pos rfl] at H; exact H
      clear H
      have H := H1
      clear H1
      replace H := Option.bind_eq_some_iff.mp H
      obtain ⟨t211, A50, H⟩ := H
      replace H : (some t211) = some r := H
      have A5 := Aside0.mk A50
      clear A50
      obtain rfl := Option.some.inj H
      go_enter Tryd.func47, Tryd.ntmps47
      go_wp2_with (first | ((with_reducible refine gate_dst (N := 1) rfl ?_); refine box_event ?hg (N := 1) ?hd (cs := #[.int .i64 a0_0, .int .i64 a0_1, .slice A0_2 l0_2.length c0_2, .slice A0_3 l0_3.length c0_3, .int .i64 a0_4, .bool true]) (t := 42) ?hr ?_; (case hd => rfl); (case hg => rfl); (case hr => first | (go_simp; done) | (go_simp; rfl)); intro gb209 hg w6 hbox hb; have n0_ := Aside0.mk (below_step (by repeat (first | (with_reducible first | exact HB.out | apply below_alloc | apply pw_below_drewN | apply below_drew1) | exact HB.out)) hb); have n1_ := Aside0.mk (hbox); have n2_ := Aside0.mk ((by rw [hg]; exact (below_size (by repeat (first | (with_reducible first | exact HB.out | apply below_alloc | apply pw_below_drewN | apply below_drew1) | exact HB.out))) : w.heap.size ≤ gb209)); have n3_ := Aside0.mk ((by rw [hg]; exact (below_size (by repeat (first | (with_reducible first | exact HB.out | apply below_alloc | apply pw_below_drewN | apply below_drew1) | exact HB.out))) : w.heap.size ≤ gb209)); clear HB; have HB := n0_; have BK209 := n1_; have GW209 := n2_; have GE209 := n3_; clear n0_ n1_ n2_ n3_; clear hb hbox hg; have hcz7_0 : w6.cell? ⟨gb209, 0, none⟩ = some (.int .i64 a0_0) := (blk_cell BK209.out 0).trans rfl; have hcz7_1 : w6.cell? ⟨gb209, 1, none⟩ = some (.int .i64 a0_1) := (blk_cell BK209.out 1).trans rfl; have hcz7_2 : w6.cell? ⟨gb209, 2, none⟩ = some (.slice A0_2 l0_2.length c0_2) := (blk_cell BK209.out 2).trans rfl; have hcz7_3 : w6.cell? ⟨gb209, 3, none⟩ = some (.slice A0_3 l0_3.length c0_3) := (blk_cell BK209.out 3).trans rfl; have hcz7_4 : w6.cell? ⟨gb209, 4, none⟩ = some (.int .i64 a0_4) := (blk_cell BK209.out 4).trans rfl; have hcz7_5 : w6.cell? ⟨gb209, 5, none⟩ = some (.bool true) := (blk_cell BK209.out 5).trans rfl; have hfz7_0 := blk_frozen BK209.out 0; have hfz7_1 := blk_frozen BK209.out 1; have hfz7_2 := blk_frozen BK209.out 2; have hfz7_3 := blk_frozen BK209.out 3; have hfz7_4 := blk_frozen BK209.out 4; have hfz7_5 := blk_frozen BK209.out 5) | ((with_reducible refine gate_callee (f := 62) rfl ?_); refine goesL_ (some 8) rfl rfl Tryd.func62 (by kernel_rfl) rfl #[.agg #[.int .i64 a0_0, .int .i64 a0_1, .slice A0_2 l0_2.length c0_2, .slice A0_3 l0_3.length c0_3]] rfl (by (try simp only [List.map_toArray, List.map_cons, List.map_nil]); first | done | rfl | (simp only [List.length_drop, List.length_take]; rfl)) ?_; (with_reducible refine (impl_isFew.calls k a0_0 a0_1 _ _ l0_2 _ _ l0_3 true _ ?side1 ?side2 ?side3 ?side4 A3.out).mono ?_); (case side1 => repeat (first | exact (Kd.C_below HR0_2.out HB.out) | (with_reducible refine Kd.C_alloc ?_ _) | (with_reducible refine Kd.C_drewN ?_ _) | (with_reducible refine Kd.C_drew ?_))); (case side2 => exact HC0_2.out); (case side3 => repeat (first | exact (Kd.C_below HR0_3.out HB.out) | (with_reducible refine Kd.C_alloc ?_ _) | (with_reducible refine Kd.C_drewN ?_ _) | (with_reducible refine Kd.C_drew ?_))); (case side4 => exact HC0_3.out); rintro e w8 ⟨rfl, hb⟩; refine ⟨_, rfl, ?_⟩; have n0_ := Aside0.mk (blk_below (g := gb209) (o := .cells #[.int .i64 a0_0, .int .i64 a0_1, .slice A0_2 l0_2.length c0_2, .slice A0_3 l0_3.length c0_3, .int .i64 a0_4, .bool true] 42 (0, 0)) (by (with_reducible repeat (first | refine blk_drewN ?_ _ | refine blk_drew ?_ | refine blk_alloc ?_ _)); exact BK209.out) hb); have n1_ := Aside0.mk (below_step (by repeat (first | (with_reducible first | exact HB.out | apply below_alloc | apply pw_below_drewN | apply below_drew1 | refine below_set ?_ GE209.out) | exact HB.out)) hb); clear BK209; clear HB; have BK209 := n0_; have HB := n1_; clear n0_ n1_; (try clear hb); (try clear hb2); (try clear hk); (try clear hi); have hcz9_0 : w8.cell? ⟨gb209, 0, none⟩ = some (.int .i64 a0_0) := (blk_cell BK209.out 0).trans rfl; have hcz9_1 : w8.cell? ⟨gb209, 1, none⟩ = some (.int .i64 a0_1) := (blk_cell BK209.out 1).trans rfl; have hcz9_2 : w8.cell? ⟨gb209, 2, none⟩ = some (.slice A0_2 l0_2.length c0_2) := (blk_cell BK209.out 2).trans rfl; have hcz9_3 : w8.cell? ⟨gb209, 3, none⟩ = some (.slice A0_3 l0_3.length c0_3) := (blk_cell BK209.out 3).trans rfl; have hcz9_4 : w8.cell? ⟨gb209, 4, none⟩ = some (.int .i64 a0_4) := (blk_cell BK209.out 4).trans rfl; have hcz9_5 : w8.cell? ⟨gb209, 5, none⟩ = some (.bool true) := (blk_cell BK209.out 5).trans rfl; have hfz9_0 := blk_frozen BK209.out 0; have hfz9_1 := blk_frozen BK209.out 1; have hfz9_2 := blk_frozen BK209.out 2; have hfz9_3 := blk_frozen BK209.out 3; have hfz9_4 := blk_frozen BK209.out 4; have hfz9_5 := blk_frozen BK209.out 5) | (go_at_call 63; (with_reducible refine (impl_within.calls a0_4 0 2 t211 _ A5.out).mono ?_); rintro e w' ⟨rfl, ⟨nd, rfl⟩⟩))
      go_ret
      exact ⟨by first | rfl | (simp [errW_none, errW_some] <;> rfl) | (simp [*, errW_none, errW_some] <;> rfl), by repeat (first | (with_reducible first | exact HB.out | apply below_alloc | apply pw_below_drewN | apply below_drew1 | refine below_set ?_ GE209.out) | exact HB.out)⟩
    · replace c4 := Bool.eq_false_iff.mpr c4
      subst c4
      have H1 : (some false) = some r := by rw [if_neg (show ¬ (false = true) by decide)] at H; exact H
      clear H
      have H := H1
      clear H1
      obtain rfl := Option.some.inj H
      go_enter Tryd.func47, Tryd.ntmps47
      go_wp2_with (first | ((with_reducible refine gate_dst (N := 1) rfl ?_); refine box_event ?hg (N := 1) ?hd (cs := #[.int .i64 a0_0, .int .i64 a0_1, .slice A0_2 l0_2.length c0_2, .slice A0_3 l0_3.length c0_3, .int .i64 a0_4, .bool true]) (t := 42) ?hr ?_; (case hd => rfl); (case hg => rfl); (case hr => first | (go_simp; done) | (go_simp; rfl)); intro gb209 hg w10 hbox hb; have n0_ := Aside0.mk (below_step (by repeat (first | (with_reducible first | exact HB.out | apply below_alloc | apply pw_below_drewN | apply below_drew1) | exact HB.out)) hb); have n1_ := Aside0.mk (hbox); have n2_ := Aside0.mk ((by rw [hg]; exact (below_size (by repeat (first | (with_reducible first | exact HB.out | apply below_alloc | apply pw_below_drewN | apply below_drew1) | exact HB.out))) : w.heap.size ≤ gb209)); have n3_ := Aside0.mk ((by rw [hg]; exact (below_size (by repeat (first | (with_reducible first | exact HB.out | apply below_alloc | apply pw_below_drewN | apply below_drew1) | exact HB.out))) : w.heap.size ≤ gb209)); clear HB; have HB := n0_; have BK209 := n1_; have GW209 := n2_; have GE209 := n3_; clear n0_ n1_ n2_ n3_; clear hb hbox hg; have hcz11_0 : w10.cell? ⟨gb209, 0, none⟩ = some (.int .i64 a0_0) := (blk_cell BK209.out 0).trans rfl; have hcz11_1 : w10.cell? ⟨gb209, 1, none⟩ = some (.int .i64 a0_1) := (blk_cell BK209.out 1).trans rfl; have hcz11_2 : w10.cell? ⟨gb209, 2, none⟩ = some (.slice A0_2 l0_2.length c0_2) := (blk_cell BK209.out 2).trans rfl; have hcz11_3 : w10.cell? ⟨gb209, 3, none⟩ = some (.slice A0_3 l0_3.length c0_3) := (blk_cell BK209.out 3).trans rfl; have hcz11_4 : w10.cell? ⟨gb209, 4, none⟩ = some (.int .i64 a0_4) := (blk_cell BK209.out 4).trans rfl; have hcz11_5 : w10.cell? ⟨gb209, 5, none⟩ = some (.bool true) := (blk_cell BK209.out 5).trans rfl; have hfz11_0 := blk_frozen BK209.out 0; have hfz11_1 := blk_frozen BK209.out 1; have hfz11_2 := blk_frozen BK209.out 2; have hfz11_3 := blk_frozen BK209.out 3; have hfz11_4 := blk_frozen BK209.out 4; have hfz11_5 := blk_frozen BK209.out 5) | ((with_reducible refine gate_callee (f := 62) rfl ?_); refine goesL_ (some 8) rfl rfl Tryd.func62 (by kernel_rfl) rfl #[.agg #[.int .i64 a0_0, .int .i64 a0_1, .slice A0_2 l0_2.length c0_2, .slice A0_3 l0_3.length c0_3]] rfl (by (try simp only [List.map_toArray, List.map_cons, List.map_nil]); first | done | rfl | (simp only [List.length_drop, List.length_take]; rfl)) ?_; (with_reducible refine (impl_isFew.calls k a0_0 a0_1 _ _ l0_2 _ _ l0_3 false _ ?side1 ?side2 ?side3 ?side4 A3.out).mono ?_); (case side1 => repeat (first | exact (Kd.C_below HR0_2.out HB.out) | (with_reducible refine Kd.C_alloc ?_ _) | (with_reducible refine Kd.C_drewN ?_ _) | (with_reducible refine Kd.C_drew ?_))); (case side2 => exact HC0_2.out); (case side3 => repeat (first | exact (Kd.C_below HR0_3.out HB.out) | (with_reducible refine Kd.C_alloc ?_ _) | (with_reducible refine Kd.C_drewN ?_ _) | (with_reducible refine Kd.C_drew ?_))); (case side4 => exact HC0_3.out); rintro e w12 ⟨rfl, hb⟩; refine ⟨_, rfl, ?_⟩; have n0_ := Aside0.mk (blk_below (g := gb209) (o := .cells #[.int .i64 a0_0, .int .i64 a0_1, .slice A0_2 l0_2.length c0_2, .slice A0_3 l0_3.length c0_3, .int .i64 a0_4, .bool true] 42 (0, 0)) (by (with_reducible repeat (first | refine blk_drewN ?_ _ | refine blk_drew ?_ | refine blk_alloc ?_ _)); exact BK209.out) hb); have n1_ := Aside0.mk (below_step (by repeat (first | (with_reducible first | exact HB.out | apply below_alloc | apply pw_below_drewN | apply below_drew1 | refine below_set ?_ GE209.out) | exact HB.out)) hb); clear BK209; clear HB; have BK209 := n0_; have HB := n1_; clear n0_ n1_; (try clear hb); (try clear hb2); (try clear hk); (try clear hi)))
      go_ret
      exact ⟨by first | rfl | (simp [errW_none, errW_some] <;> rfl) | (simp [*, errW_none, errW_some] <;> rfl), by repeat (first | (with_reducible first | exact HB.out | apply below_alloc | apply pw_below_drewN | apply below_drew1 | refine below_set ?_ GE209.out) | exact HB.out)⟩
  · replace c2 := Bool.eq_false_iff.mpr c2
    subst c2
    have H1 : ((impl_isFew.f k a0_0 a0_1 l0_2 l0_3).bind fun t212 => (if t212 = true then ((impl_within.f a0_4 0 4).bind fun t213 => (some t213)) else (some false))) = some r := by rw [if_neg (show ¬ (false = true) by decide)] at H; exact H
    clear H
    have H := H1
    clear H1
    replace H := Option.bind_eq_some_iff.mp H
    obtain ⟨t212, A130, H⟩ := H
    replace H : (if t212 = true then ((impl_within.f a0_4 0 4).bind fun t213 => (some t213)) else (some false)) = some r := H
    have A13 := Aside0.mk A130
    clear A130
    by_cases c14 : t212 = true
    · subst c14
      have H1 : ((impl_within.f a0_4 0 4).bind fun t213 => (some t213)) = some r := by rw [if_pos rfl] at H; exact H
      clear H
      have H := H1
      clear H1
      replace H := Option.bind_eq_some_iff.mp H
      obtain ⟨t213, A150, H⟩ := H
      replace H : (some t213) = some r := H
      have A15 := Aside0.mk A150
      clear A150
      obtain rfl := Option.some.inj H
      go_enter Tryd.func47, Tryd.ntmps47
      go_wp2_with (first | ((with_reducible refine gate_dst (N := 1) rfl ?_); refine box_event ?hg (N := 1) ?hd (cs := #[.int .i64 a0_0, .int .i64 a0_1, .slice A0_2 l0_2.length c0_2, .slice A0_3 l0_3.length c0_3, .int .i64 a0_4, .bool false]) (t := 42) ?hr ?_; (case hd => rfl); (case hg => rfl); (case hr => first | (go_simp; done) | (go_simp; rfl)); intro gb209 hg w16 hbox hb; have n0_ := Aside0.mk (below_step (by repeat (first | (with_reducible first | exact HB.out | apply below_alloc | apply pw_below_drewN | apply below_drew1) | exact HB.out)) hb); have n1_ := Aside0.mk (hbox); have n2_ := Aside0.mk ((by rw [hg]; exact (below_size (by repeat (first | (with_reducible first | exact HB.out | apply below_alloc | apply pw_below_drewN | apply below_drew1) | exact HB.out))) : w.heap.size ≤ gb209)); have n3_ := Aside0.mk ((by rw [hg]; exact (below_size (by repeat (first | (with_reducible first | exact HB.out | apply below_alloc | apply pw_below_drewN | apply below_drew1) | exact HB.out))) : w.heap.size ≤ gb209)); clear HB; have HB := n0_; have BK209 := n1_; have GW209 := n2_; have GE209 := n3_; clear n0_ n1_ n2_ n3_; clear hb hbox hg; have hcz17_0 : w16.cell? ⟨gb209, 0, none⟩ = some (.int .i64 a0_0) := (blk_cell BK209.out 0).trans rfl; have hcz17_1 : w16.cell? ⟨gb209, 1, none⟩ = some (.int .i64 a0_1) := (blk_cell BK209.out 1).trans rfl; have hcz17_2 : w16.cell? ⟨gb209, 2, none⟩ = some (.slice A0_2 l0_2.length c0_2) := (blk_cell BK209.out 2).trans rfl; have hcz17_3 : w16.cell? ⟨gb209, 3, none⟩ = some (.slice A0_3 l0_3.length c0_3) := (blk_cell BK209.out 3).trans rfl; have hcz17_4 : w16.cell? ⟨gb209, 4, none⟩ = some (.int .i64 a0_4) := (blk_cell BK209.out 4).trans rfl; have hcz17_5 : w16.cell? ⟨gb209, 5, none⟩ = some (.bool false) := (blk_cell BK209.out 5).trans rfl; have hfz17_0 := blk_frozen BK209.out 0; have hfz17_1 := blk_frozen BK209.out 1; have hfz17_2 := blk_frozen BK209.out 2; have hfz17_3 := blk_frozen BK209.out 3; have hfz17_4 := blk_frozen BK209.out 4; have hfz17_5 := blk_frozen BK209.out 5) | ((with_reducible refine gate_callee (f := 62) rfl ?_); refine goesL_ (some 8) rfl rfl Tryd.func62 (by kernel_rfl) rfl #[.agg #[.int .i64 a0_0, .int .i64 a0_1, .slice A0_2 l0_2.length c0_2, .slice A0_3 l0_3.length c0_3]] rfl (by (try simp only [List.map_toArray, List.map_cons, List.map_nil]); first | done | rfl | (simp only [List.length_drop, List.length_take]; rfl)) ?_; (with_reducible refine (impl_isFew.calls k a0_0 a0_1 _ _ l0_2 _ _ l0_3 true _ ?side1 ?side2 ?side3 ?side4 A13.out).mono ?_); (case side1 => repeat (first | exact (Kd.C_below HR0_2.out HB.out) | (with_reducible refine Kd.C_alloc ?_ _) | (with_reducible refine Kd.C_drewN ?_ _) | (with_reducible refine Kd.C_drew ?_))); (case side2 => exact HC0_2.out); (case side3 => repeat (first | exact (Kd.C_below HR0_3.out HB.out) | (with_reducible refine Kd.C_alloc ?_ _) | (with_reducible refine Kd.C_drewN ?_ _) | (with_reducible refine Kd.C_drew ?_))); (case side4 => exact HC0_3.out); rintro e w18 ⟨rfl, hb⟩; refine ⟨_, rfl, ?_⟩; have n0_ := Aside0.mk (blk_below (g := gb209) (o := .cells #[.int .i64 a0_0, .int .i64 a0_1, .slice A0_2 l0_2.length c0_2, .slice A0_3 l0_3.length c0_3, .int .i64 a0_4, .bool false] 42 (0, 0)) (by (with_reducible repeat (first | refine blk_drewN ?_ _ | refine blk_drew ?_ | refine blk_alloc ?_ _)); exact BK209.out) hb); have n1_ := Aside0.mk (below_step (by repeat (first | (with_reducible first | exact HB.out | apply below_alloc | apply pw_below_drewN | apply below_drew1 | refine below_set ?_ GE209.out) | exact HB.out)) hb); clear BK209; clear HB; have BK209 := n0_; have HB := n1_; clear n0_ n1_; (try clear hb); (try clear hb2); (try clear hk); (try clear hi); have hcz19_0 : w18.cell? ⟨gb209, 0, none⟩ = some (.int .i64 a0_0) := (blk_cell BK209.out 0).trans rfl; have hcz19_1 : w18.cell? ⟨gb209, 1, none⟩ = some (.int .i64 a0_1) := (blk_cell BK209.out 1).trans rfl; have hcz19_2 : w18.cell? ⟨gb209, 2, none⟩ = some (.slice A0_2 l0_2.length c0_2) := (blk_cell BK209.out 2).trans rfl; have hcz19_3 : w18.cell? ⟨gb209, 3, none⟩ = some (.slice A0_3 l0_3.length c0_3) := (blk_cell BK209.out 3).trans rfl; have hcz19_4 : w18.cell? ⟨gb209, 4, none⟩ = some (.int .i64 a0_4) := (blk_cell BK209.out 4).trans rfl; have hcz19_5 : w18.cell? ⟨gb209, 5, none⟩ = some (.bool false) := (blk_cell BK209.out 5).trans rfl; have hfz19_0 := blk_frozen BK209.out 0; have hfz19_1 := blk_frozen BK209.out 1; have hfz19_2 := blk_frozen BK209.out 2; have hfz19_3 := blk_frozen BK209.out 3; have hfz19_4 := blk_frozen BK209.out 4; have hfz19_5 := blk_frozen BK209.out 5) | (go_at_call 63; (with_reducible refine (impl_within.calls a0_4 0 4 t213 _ A15.out).mono ?_); rintro e w' ⟨rfl, ⟨nd, rfl⟩⟩))
      go_ret
      exact ⟨by first | rfl | (simp [errW_none, errW_some] <;> rfl) | (simp [*, errW_none, errW_some] <;> rfl), by repeat (first | (with_reducible first | exact HB.out | apply below_alloc | apply pw_below_drewN | apply below_drew1 | refine below_set ?_ GE209.out) | exact HB.out)⟩
    · replace c14 := Bool.eq_false_iff.mpr c14
      subst c14
      have H1 : (some false) = some r := by rw [if_neg (show ¬ (false = true) by decide)] at H; exact H
      clear H
      have H := H1
      clear H1
      obtain rfl := Option.some.inj H
      go_enter Tryd.func47, Tryd.ntmps47
      go_wp2_with (first | ((with_reducible refine gate_dst (N := 1) rfl ?_); refine box_event ?hg (N := 1) ?hd (cs := #[.int .i64 a0_0, .int .i64 a0_1, .slice A0_2 l0_2.length c0_2, .slice A0_3 l0_3.length c0_3, .int .i64 a0_4, .bool false]) (t := 42) ?hr ?_; (case hd => rfl); (case hg => rfl); (case hr => first | (go_simp; done) | (go_simp; rfl)); intro gb209 hg w20 hbox hb; have n0_ := Aside0.mk (below_step (by repeat (first | (with_reducible first | exact HB.out | apply below_alloc | apply pw_below_drewN | apply below_drew1) | exact HB.out)) hb); have n1_ := Aside0.mk (hbox); have n2_ := Aside0.mk ((by rw [hg]; exact (below_size (by repeat (first | (with_reducible first | exact HB.out | apply below_alloc | apply pw_below_drewN | apply below_drew1) | exact HB.out))) : w.heap.size ≤ gb209)); have n3_ := Aside0.mk ((by rw [hg]; exact (below_size (by repeat (first | (with_reducible first | exact HB.out | apply below_alloc | apply pw_below_drewN | apply below_drew1) | exact HB.out))) : w.heap.size ≤ gb209)); clear HB; have HB := n0_; have BK209 := n1_; have GW209 := n2_; have GE209 := n3_; clear n0_ n1_ n2_ n3_; clear hb hbox hg; have hcz21_0 : w20.cell? ⟨gb209, 0, none⟩ = some (.int .i64 a0_0) := (blk_cell BK209.out 0).trans rfl; have hcz21_1 : w20.cell? ⟨gb209, 1, none⟩ = some (.int .i64 a0_1) := (blk_cell BK209.out 1).trans rfl; have hcz21_2 : w20.cell? ⟨gb209, 2, none⟩ = some (.slice A0_2 l0_2.length c0_2) := (blk_cell BK209.out 2).trans rfl; have hcz21_3 : w20.cell? ⟨gb209, 3, none⟩ = some (.slice A0_3 l0_3.length c0_3) := (blk_cell BK209.out 3).trans rfl; have hcz21_4 : w20.cell? ⟨gb209, 4, none⟩ = some (.int .i64 a0_4) := (blk_cell BK209.out 4).trans rfl; have hcz21_5 : w20.cell? ⟨gb209, 5, none⟩ = some (.bool false) := (blk_cell BK209.out 5).trans rfl; have hfz21_0 := blk_frozen BK209.out 0; have hfz21_1 := blk_frozen BK209.out 1; have hfz21_2 := blk_frozen BK209.out 2; have hfz21_3 := blk_frozen BK209.out 3; have hfz21_4 := blk_frozen BK209.out 4; have hfz21_5 := blk_frozen BK209.out 5) | ((with_reducible refine gate_callee (f := 62) rfl ?_); refine goesL_ (some 8) rfl rfl Tryd.func62 (by kernel_rfl) rfl #[.agg #[.int .i64 a0_0, .int .i64 a0_1, .slice A0_2 l0_2.length c0_2, .slice A0_3 l0_3.length c0_3]] rfl (by (try simp only [List.map_toArray, List.map_cons, List.map_nil]); first | done | rfl | (simp only [List.length_drop, List.length_take]; rfl)) ?_; (with_reducible refine (impl_isFew.calls k a0_0 a0_1 _ _ l0_2 _ _ l0_3 false _ ?side1 ?side2 ?side3 ?side4 A13.out).mono ?_); (case side1 => repeat (first | exact (Kd.C_below HR0_2.out HB.out) | (with_reducible refine Kd.C_alloc ?_ _) | (with_reducible refine Kd.C_drewN ?_ _) | (with_reducible refine Kd.C_drew ?_))); (case side2 => exact HC0_2.out); (case side3 => repeat (first | exact (Kd.C_below HR0_3.out HB.out) | (with_reducible refine Kd.C_alloc ?_ _) | (with_reducible refine Kd.C_drewN ?_ _) | (with_reducible refine Kd.C_drew ?_))); (case side4 => exact HC0_3.out); rintro e w22 ⟨rfl, hb⟩; refine ⟨_, rfl, ?_⟩; have n0_ := Aside0.mk (blk_below (g := gb209) (o := .cells #[.int .i64 a0_0, .int .i64 a0_1, .slice A0_2 l0_2.length c0_2, .slice A0_3 l0_3.length c0_3, .int .i64 a0_4, .bool false] 42 (0, 0)) (by (with_reducible repeat (first | refine blk_drewN ?_ _ | refine blk_drew ?_ | refine blk_alloc ?_ _)); exact BK209.out) hb); have n1_ := Aside0.mk (below_step (by repeat (first | (with_reducible first | exact HB.out | apply below_alloc | apply pw_below_drewN | apply below_drew1 | refine below_set ?_ GE209.out) | exact HB.out)) hb); clear BK209; clear HB; have BK209 := n0_; have HB := n1_; clear n0_ n1_; (try clear hb); (try clear hb2); (try clear hk); (try clear hi)))
      go_ret
      exact ⟨by first | rfl | (simp [errW_none, errW_some] <;> rfl) | (simp [*, errW_none, errW_some] <;> rfl), by repeat (first | (with_reducible first | exact HB.out | apply below_alloc | apply pw_below_drewN | apply below_drew1 | refine below_set ?_ GE209.out) | exact HB.out)⟩

end Go.Proofs.YtgakmcoeccmkbaaDoor.P


namespace Go.Proofs.YtgakmcoeccmkbaaDoor.P
open Go.RowKit Go.Proofs.YtgakmcoeccmkbaaDoorW.PrintWords Go.Proofs.YtgakmcoeccmkbaaDoorW.PrintLast Go.Proofs.YtgakmcoeccmkbaaDoorW.PrintMore
attribute [local go_sem] max2_int min2_int max_two min_two max_three min_three max_four min_four   -- for this text's walks alone
set_option linter.unusedVariables false
set_option linter.unusedSimpArgs false

def impl_isNumber.f (a0 : Int) : Option (Bool) := (impl_within.f a0 0 100).bind fun t214 => (some t214)
set_option maxHeartbeats 8000000 in
set_option maxRecDepth 100000 in
theorem impl_isNumber.calls (a0 : Int) (r : Bool) (w : World) (h : impl_isNumber.f a0 = some r) :
    Calls Tryd.prog 48 #[.int .i64 a0] w fun e w' => e = .returned (.bool r) ∧ Drawn0 w w' := by
  have H : ((impl_within.f a0 0 100).bind fun t214 => (some t214)) = some r := h
  clear h
  replace H := Option.bind_eq_some_iff.mp H
  obtain ⟨t214, A20, H⟩ := H
  replace H : (some t214) = some r := H
  have A2 := Aside0.mk A20
  clear A20
  obtain rfl := Option.some.inj H
  go_enter Tryd.func48, Tryd.ntmps48
  go_wp2_with (first | ((with_reducible refine gate_callee (f := 63) rfl ?_); refine goesL_ (some 4) rfl rfl Tryd.func63 (by kernel_rfl) rfl #[.int .i64 a0, .int .i64 0, .int .i64 100] rfl (by (try simp only [List.map_toArray, List.map_cons, List.map_nil]); first | done | rfl | (simp only [List.length_drop, List.length_take]; rfl)) ?_; (with_reducible refine (impl_within.calls a0 0 100 t214 _ A2.out).mono ?_); rintro e w' ⟨rfl, ⟨nd, rfl⟩⟩; refine ⟨_, rfl, ?_⟩))
  go_ret
  exact ⟨by first | rfl | (simp; done) | (simp [*]; done), by repeat (first | exact Drawn0.refl _ | apply Drawn0.step)⟩

end Go.Proofs.YtgakmcoeccmkbaaDoor.P


namespace Go.Proofs.YtgakmcoeccmkbaaDoor.P
open Go.RowKit Go.Proofs.YtgakmcoeccmkbaaDoorW.PrintWords Go.Proofs.YtgakmcoeccmkbaaDoorW.PrintLast Go.Proofs.YtgakmcoeccmkbaaDoorW.PrintMore
attribute [local go_sem] max2_int min2_int max_two min_two max_three min_three max_four min_four   -- for this text's walks alone
set_option linter.unusedVariables false
set_option linter.unusedSimpArgs false

structure FigOK (K : Nat) (fW fH : Int) (l2 l3 : List Int) (s al : Nat) (L : List S83) (cnt nd : Nat → Int) : Prop where
  hs : s < 2 ^ 60
  hal : al < 2 ^ 60
  hset : impl_Figure_set.f K fW fH l2 l3 = some (s : Int)
  ha : impl_grid_all.f fW fH = some (al : Int)
  hsq : impl_grid_squares.f K fW fH = some L
  hcn : ∀ x, x < 2 ^ 60 → impl_countOf.f K L ((x : Nat) : Int) = some (cnt x)
  hnd : ∀ x, x < 2 ^ 60 → impl_needless.f K L ((x : Nat) : Int) = some (nd x)
def mostM (mv : Bool) : Int := if mv then 2 else 4
def rightM (few : Bool) (mt : Int) (mv : Bool) : Bool := few && (decide (0 ≤ mt) && decide (mt ≤ mostM mv))
theorem isRight_f {K : Nat} {fW fH : Int} {l2 l3 : List Int} {few : Bool} (h : impl_isFew.f K fW fH l2 l3 = some few) (mt : Int) (mv : Bool) : impl_way_isRight.f K fW fH l2 l3 mt mv = some (rightM few mt mv) := by
  unfold impl_way_isRight.f rightM mostM impl_within.f
  rw [h]
  cases mv <;> cases few <;> by_cases h0 : 0 ≤ mt <;> simp [h0]
end Go.Proofs.YtgakmcoeccmkbaaDoor.P


namespace Go.Proofs.YtgakmcoeccmkbaaDoor.P
open Go.RowKit Go.Proofs.YtgakmcoeccmkbaaDoorW.PrintWords Go.Proofs.YtgakmcoeccmkbaaDoorW.PrintLast Go.Proofs.YtgakmcoeccmkbaaDoorW.PrintMore
attribute [local go_sem] max2_int min2_int max_two min_two max_three min_three max_four min_four   -- for this text's walks alone
set_option linter.unusedVariables false
set_option linter.unusedSimpArgs false

mutual
def spec_moFew.j0 : Nat → Int → Bool → Bool → Int → Int → List Int → List Int → Option (Int × Bool)
  | 0, _, _, _, _, _, _, _ => none
  | k + 1, x1, x2, x16, x268000, x268001, x268002, x268003 => if x16 = true then (some (0, false)) else (spec_moFew.l0 k x1 x2 0 x268000 x268001 x268002 x268003)
def spec_moFew.l0 : Nat → Int → Bool → Int → Int → Int → List Int → List Int → Option (Int × Bool)
  | 0, _, _, _, _, _, _, _ => none
  | k + 1, x1, x2, x8, x268000, x268001, x268002, x268003 => (spec_moAsked.f k x268000 x268001 x268002 x268003 x8 x2).bind fun t270 => (if t270 = true then ((spec_moThose.f k x268000 x268001 x268002 x268003 x8 x1 x2 false).bind fun t271 => (if (t271.length : Int) > 0 then (some (x8, true)) else (spec_moFew.l0 k x1 x2 (wrap64 (x8 + 1)) x268000 x268001 x268002 x268003))) else (some (0, false)))
end
def spec_moFew.f (k : Nat) (a0_0 : Int) (a0_1 : Int) (l0_2 : List Int) (l0_3 : List Int) (a1 : Int) (a2 : Bool) : Option (Int × Bool) := (spec_sqFew.f k a0_0 a0_1 l0_2 l0_3).bind fun t268 => (if t268 = true then ((spec_moSquares.f a1).bind fun t269 => (spec_moFew.j0 k a1 a2 (!t269) a0_0 a0_1 l0_2 l0_3)) else (spec_moFew.j0 k a1 a2 true a0_0 a0_1 l0_2 l0_3))
theorem spec_moFew.mono_l : ∀ k, (∀ y0 y1 y2 y3 y4 y5 y6, LeO (spec_moFew.j0 k y0 y1 y2 y3 y4 y5 y6) (spec_moFew.j0 (k + 1) y0 y1 y2 y3 y4 y5 y6)) ∧ (∀ y0 y1 y2 y3 y4 y5 y6, LeO (spec_moFew.l0 k y0 y1 y2 y3 y4 y5 y6) (spec_moFew.l0 (k + 1) y0 y1 y2 y3 y4 y5 y6))
  | 0 => ⟨fun _ _ _ _ _ _ _ r h => by simp [spec_moFew.j0] at h, fun _ _ _ _ _ _ _ r h => by simp [spec_moFew.l0] at h⟩
  | k + 1 => by
    obtain ⟨ih0, ih1⟩ := spec_moFew.mono_l k
    refine ⟨?_, ?_⟩
    · intro y0 y1 y2 y3 y4 y5 y6
      unfold spec_moFew.j0
      repeat' first
      | (with_reducible exact ih0 _ _ _ _ _ _ _)
      | (with_reducible exact ih1 _ _ _ _ _ _ _)
      | (with_reducible exact spec_moAsked.mono _ _ _ _ _ _ _)
      | (with_reducible exact spec_moThose.mono _ _ _ _ _ _ _ _ _)
      | (with_reducible exact spec_sqFew.mono _ _ _ _ _)
      | (with_reducible exact LeO.refl _)
      | (with_reducible exact LeO.none _)
      | (with_reducible refine LeO.ite ?_ ?_)
      | (with_reducible refine LeO.bind ?_ (fun _ => ?_))
      | exact ih0 _ _ _ _ _ _ _
      | exact ih1 _ _ _ _ _ _ _
      | exact spec_moAsked.mono _ _ _ _ _ _ _
      | exact spec_moThose.mono _ _ _ _ _ _ _ _ _
      | exact spec_sqFew.mono _ _ _ _ _
      | exact LeO.none _
      | refine LeO.ite ?_ ?_
      | refine LeO.bind ?_ (fun _ => ?_)
    · intro y0 y1 y2 y3 y4 y5 y6
      unfold spec_moFew.l0
      repeat' first
      | (with_reducible exact ih0 _ _ _ _ _ _ _)
      | (with_reducible exact ih1 _ _ _ _ _ _ _)
      | (with_reducible exact spec_moAsked.mono _ _ _ _ _ _ _)
      | (with_reducible exact spec_moThose.mono _ _ _ _ _ _ _ _ _)
      | (with_reducible exact spec_sqFew.mono _ _ _ _ _)
      | (with_reducible exact LeO.refl _)
      | (with_reducible exact LeO.none _)
      | (with_reducible refine LeO.ite ?_ ?_)
      | (with_reducible refine LeO.bind ?_ (fun _ => ?_))
      | exact ih0 _ _ _ _ _ _ _
      | exact ih1 _ _ _ _ _ _ _
      | exact spec_moAsked.mono _ _ _ _ _ _ _
      | exact spec_moThose.mono _ _ _ _ _ _ _ _ _
      | exact spec_sqFew.mono _ _ _ _ _
      | exact LeO.none _
      | refine LeO.ite ?_ ?_
      | refine LeO.bind ?_ (fun _ => ?_)
theorem spec_moFew.mono : ∀ a0 a1 a2 a3 a4 a5 k, LeO (spec_moFew.f k a0 a1 a2 a3 a4 a5) (spec_moFew.f (k + 1) a0 a1 a2 a3 a4 a5) := by
  intro a0 a1 a2 a3 a4 a5 k
  obtain ⟨ih0, ih1⟩ := spec_moFew.mono_l k
  unfold spec_moFew.f
  repeat' first
      | (with_reducible exact ih0 _ _ _ _ _ _ _)
      | (with_reducible exact ih1 _ _ _ _ _ _ _)
      | (with_reducible exact spec_moAsked.mono _ _ _ _ _ _ _)
      | (with_reducible exact spec_moThose.mono _ _ _ _ _ _ _ _ _)
      | (with_reducible exact spec_sqFew.mono _ _ _ _ _)
      | (with_reducible exact LeO.refl _)
      | (with_reducible exact LeO.none _)
      | (with_reducible refine LeO.ite ?_ ?_)
      | (with_reducible refine LeO.bind ?_ (fun _ => ?_))
      | exact ih0 _ _ _ _ _ _ _
      | exact ih1 _ _ _ _ _ _ _
      | exact spec_moAsked.mono _ _ _ _ _ _ _
      | exact spec_moThose.mono _ _ _ _ _ _ _ _ _
      | exact spec_sqFew.mono _ _ _ _ _
      | exact LeO.none _
      | refine LeO.ite ?_ ?_
      | refine LeO.bind ?_ (fun _ => ?_)
set_option maxHeartbeats 8000000 in
set_option maxRecDepth 100000 in
theorem spec_moFew.calls (k : Nat) (a0_0 : Int) (a0_1 : Int) (A0_2 : Option Addr) (c0_2 : Nat) (l0_2 : List Int) (A0_3 : Option Addr) (c0_3 : Nat) (l0_3 : List Int) (a1 : Int) (a2 : Bool) (r1 : Int) (r2 : Bool) (w : World) (hr0_2 : Kd.C (Kd.int .i64) w A0_2 l0_2.length l0_2) (hc0_2 : l0_2.length ≤ c0_2) (hr0_3 : Kd.C (Kd.int .i64) w A0_3 l0_3.length l0_3) (hc0_3 : l0_3.length ≤ c0_3) (h : spec_moFew.f k a0_0 a0_1 l0_2 l0_3 a1 a2 = some (r1, r2)) :
    Calls Tryd.prog 39 #[.agg #[.int .i64 a0_0, .int .i64 a0_1, .slice A0_2 l0_2.length c0_2, .slice A0_3 l0_3.length c0_3], .int .i64 a1, .bool a2] w fun e w' => e = .returned (.tuple #[.int .i64 r1, .bool r2]) ∧ Below w.heap.size w w' := by
  have hu28 := Tryd.underlying28
  have HR0_2 := Aside0.mk hr0_2
  have HC0_2 := Aside0.mk hc0_2
  clear hr0_2 hc0_2
  have HR0_3 := Aside0.mk hr0_3
  have HC0_3 := Aside0.mk hc0_3
  clear hr0_3 hc0_3
  have HB := Aside0.mk (Below.refl w.heap.size w)
  have H : ((spec_sqFew.f k a0_0 a0_1 l0_2 l0_3).bind fun t268 => (if t268 = true then ((spec_moSquares.f a1).bind fun t269 => (spec_moFew.j0 k a1 a2 (!t269) a0_0 a0_1 l0_2 l0_3)) else (spec_moFew.j0 k a1 a2 true a0_0 a0_1 l0_2 l0_3))) = some (r1, r2) := h
  clear h
  have HC4 := Aside0.mk H
  clear H
  go_enter Tryd.func39, Tryd.ntmps39
  go_upto_region 1 with (first | ((with_reducible refine gate_dst (N := 3) rfl ?_); refine box_event ?hg (N := 3) ?hd (cs := #[.int .i64 a0_0, .int .i64 a0_1, .slice A0_2 l0_2.length c0_2, .slice A0_3 l0_3.length c0_3]) (t := 28) ?hr ?_; (case hd => rfl); (case hg => rfl); (case hr => first | (go_simp; done) | (go_simp; rfl)); intro gb267 hg w5 hbox hb; have n0_ := Aside0.mk (below_step (by repeat (first | (with_reducible first | exact HB.out | apply below_alloc | apply pw_below_drewN | apply below_drew1) | exact HB.out)) hb); have n1_ := Aside0.mk (hbox); have n2_ := Aside0.mk ((by rw [hg]; exact (below_size (by repeat (first | (with_reducible first | exact HB.out | apply below_alloc | apply pw_below_drewN | apply below_drew1) | exact HB.out))) : w.heap.size ≤ gb267)); have n3_ := Aside0.mk ((by rw [hg]; exact (below_size (by repeat (first | (with_reducible first | exact HB.out | apply below_alloc | apply pw_below_drewN | apply below_drew1) | exact HB.out))) : w.heap.size ≤ gb267)); clear HB; have HB := n0_; have BK267 := n1_; have GW267 := n2_; have GE267 := n3_; clear n0_ n1_ n2_ n3_; clear hb hbox hg))
  (try simp only [Act.put, List.setIfInBounds_toArray, List.set_cons_zero, List.set_cons_succ])
  go_cut [16] (fun v16 wc => ∃ (kq : Nat) (x16_3 : Bool), v16 = .bool x16_3 ∧ Aside0 (spec_moFew.j0 kq a1 a2 x16_3 a0_0 a0_1 l0_2 l0_3 = some (r1, r2)) ∧ Aside0 (kq ≤ k) ∧ Aside0 (wc.heap[gb267]? = some (.cells #[.int .i64 a0_0, .int .i64 a0_1, (.slice A0_2 l0_2.length c0_2), (.slice A0_3 l0_3.length c0_3)] 28 (0, 0))) ∧ Aside0 (Below w.heap.size w wc))
  case first =>
    have H := HC4.out
    clear HC4
    replace H := Option.bind_eq_some_iff.mp H
    obtain ⟨t268, A60, H⟩ := H
    replace H : (if t268 = true then ((spec_moSquares.f a1).bind fun t269 => (spec_moFew.j0 k a1 a2 (!t269) a0_0 a0_1 l0_2 l0_3)) else (spec_moFew.j0 k a1 a2 true a0_0 a0_1 l0_2 l0_3)) = some (r1, r2) := H
    have A6 := Aside0.mk A60
    clear A60
    by_cases c7 : t268 = true
    · subst c7
      have H1 : ((spec_moSquares.f a1).bind fun t269 => (spec_moFew.j0 k a1 a2 (!t269) a0_0 a0_1 l0_2 l0_3)) = some (r1, r2) := by rw [if_pos rfl] at H; exact H
      clear H
      have H := H1
      clear H1
      replace H := Option.bind_eq_some_iff.mp H
      obtain ⟨t269, A80, H⟩ := H
      replace H : (spec_moFew.j0 k a1 a2 (!t269) a0_0 a0_1 l0_2 l0_3) = some (r1, r2) := H
      have A8 := Aside0.mk A80
      clear A80
      have H' := Aside0.mk H
      clear H
      have hcz9_0 : w5.cell? ⟨gb267, 0, none⟩ = some (.int .i64 a0_0) := (blk_cell BK267.out 0).trans rfl
      have hcz9_1 : w5.cell? ⟨gb267, 1, none⟩ = some (.int .i64 a0_1) := (blk_cell BK267.out 1).trans rfl
      have hcz9_2 : w5.cell? ⟨gb267, 2, none⟩ = some (.slice A0_2 l0_2.length c0_2) := (blk_cell BK267.out 2).trans rfl
      have hcz9_3 : w5.cell? ⟨gb267, 3, none⟩ = some (.slice A0_3 l0_3.length c0_3) := (blk_cell BK267.out 3).trans rfl
      have hfz9_0 := blk_frozen BK267.out 0
      have hfz9_1 := blk_frozen BK267.out 1
      have hfz9_2 := blk_frozen BK267.out 2
      have hfz9_3 := blk_frozen BK267.out 3
      go_wp2_with (first | ((with_reducible refine gate_callee (f := 50) rfl ?_); refine goesL_ (some 10) rfl rfl Tryd.func50 (by kernel_rfl) rfl #[.agg #[.int .i64 a0_0, .int .i64 a0_1, .slice A0_2 l0_2.length c0_2, .slice A0_3 l0_3.length c0_3]] rfl (by (try simp only [List.map_toArray, List.map_cons, List.map_nil]); first | done | rfl | (simp only [List.length_drop, List.length_take]; rfl)) ?_; (with_reducible refine (spec_sqFew.calls k a0_0 a0_1 _ _ l0_2 _ _ l0_3 true _ ?side1 ?side2 ?side3 ?side4 A6.out).mono ?_); (case side1 => repeat (first | exact (Kd.C_below HR0_2.out HB.out) | (with_reducible refine Kd.C_alloc ?_ _) | (with_reducible refine Kd.C_drewN ?_ _) | (with_reducible refine Kd.C_drew ?_))); (case side2 => exact HC0_2.out); (case side3 => repeat (first | exact (Kd.C_below HR0_3.out HB.out) | (with_reducible refine Kd.C_alloc ?_ _) | (with_reducible refine Kd.C_drewN ?_ _) | (with_reducible refine Kd.C_drew ?_))); (case side4 => exact HC0_3.out); rintro e w10 ⟨rfl, hb⟩; refine ⟨_, rfl, ?_⟩; have n0_ := Aside0.mk (blk_below (g := gb267) (o := .cells #[.int .i64 a0_0, .int .i64 a0_1, .slice A0_2 l0_2.length c0_2, .slice A0_3 l0_3.length c0_3] 28 (0, 0)) (by (with_reducible repeat (first | refine blk_drewN ?_ _ | refine blk_drew ?_ | refine blk_alloc ?_ _)); exact BK267.out) hb); have n1_ := Aside0.mk (below_step (by repeat (first | (with_reducible first | exact HB.out | apply below_alloc | apply pw_below_drewN | apply below_drew1 | refine below_set ?_ GE267.out) | exact HB.out)) hb); clear BK267; clear HB; have BK267 := n0_; have HB := n1_; clear n0_ n1_; (try clear hb); (try clear hb2); (try clear hk); (try clear hi)) | (go_at_call 44; (with_reducible refine (spec_moSquares.calls a1 t269 _ A8.out).mono ?_); rintro e w' ⟨rfl, ⟨nd, rfl⟩⟩))
      go_meet
      case rel => exact ⟨_, (!t269), (by first | rfl | (simp; done) | (simp [*]; done)), H', ⟨by first | omega | exact Nat.le_refl _⟩, ⟨by (with_reducible repeat (first | refine blk_drewN ?_ _ | refine blk_drew ?_ | refine blk_alloc ?_ _)); exact BK267.out⟩, ⟨by repeat (first | (with_reducible first | exact HB.out | apply below_alloc | apply pw_below_drewN | apply below_drew1 | refine below_set ?_ GE267.out) | exact HB.out)⟩⟩
    · replace c7 := Bool.eq_false_iff.mpr c7
      subst c7
      have H1 : (spec_moFew.j0 k a1 a2 true a0_0 a0_1 l0_2 l0_3) = some (r1, r2) := by rw [if_neg (show ¬ (false = true) by decide)] at H; exact H
      clear H
      have H := H1
      clear H1
      have H' := Aside0.mk H
      clear H
      have hcz11_0 : w5.cell? ⟨gb267, 0, none⟩ = some (.int .i64 a0_0) := (blk_cell BK267.out 0).trans rfl
      have hcz11_1 : w5.cell? ⟨gb267, 1, none⟩ = some (.int .i64 a0_1) := (blk_cell BK267.out 1).trans rfl
      have hcz11_2 : w5.cell? ⟨gb267, 2, none⟩ = some (.slice A0_2 l0_2.length c0_2) := (blk_cell BK267.out 2).trans rfl
      have hcz11_3 : w5.cell? ⟨gb267, 3, none⟩ = some (.slice A0_3 l0_3.length c0_3) := (blk_cell BK267.out 3).trans rfl
      have hfz11_0 := blk_frozen BK267.out 0
      have hfz11_1 := blk_frozen BK267.out 1
      have hfz11_2 := blk_frozen BK267.out 2
      have hfz11_3 := blk_frozen BK267.out 3
      go_wp2_with (first | ((with_reducible refine gate_callee (f := 50) rfl ?_); refine goesL_ (some 10) rfl rfl Tryd.func50 (by kernel_rfl) rfl #[.agg #[.int .i64 a0_0, .int .i64 a0_1, .slice A0_2 l0_2.length c0_2, .slice A0_3 l0_3.length c0_3]] rfl (by (try simp only [List.map_toArray, List.map_cons, List.map_nil]); first | done | rfl | (simp only [List.length_drop, List.length_take]; rfl)) ?_; (with_reducible refine (spec_sqFew.calls k a0_0 a0_1 _ _ l0_2 _ _ l0_3 false _ ?side1 ?side2 ?side3 ?side4 A6.out).mono ?_); (case side1 => repeat (first | exact (Kd.C_below HR0_2.out HB.out) | (with_reducible refine Kd.C_alloc ?_ _) | (with_reducible refine Kd.C_drewN ?_ _) | (with_reducible refine Kd.C_drew ?_))); (case side2 => exact HC0_2.out); (case side3 => repeat (first | exact (Kd.C_below HR0_3.out HB.out) | (with_reducible refine Kd.C_alloc ?_ _) | (with_reducible refine Kd.C_drewN ?_ _) | (with_reducible refine Kd.C_drew ?_))); (case side4 => exact HC0_3.out); rintro e w12 ⟨rfl, hb⟩; refine ⟨_, rfl, ?_⟩; have n0_ := Aside0.mk (blk_below (g := gb267) (o := .cells #[.int .i64 a0_0, .int .i64 a0_1, .slice A0_2 l0_2.length c0_2, .slice A0_3 l0_3.length c0_3] 28 (0, 0)) (by (with_reducible repeat (first | refine blk_drewN ?_ _ | refine blk_drew ?_ | refine blk_alloc ?_ _)); exact BK267.out) hb); have n1_ := Aside0.mk (below_step (by repeat (first | (with_reducible first | exact HB.out | apply below_alloc | apply pw_below_drewN | apply below_drew1 | refine below_set ?_ GE267.out) | exact HB.out)) hb); clear BK267; clear HB; have BK267 := n0_; have HB := n1_; clear n0_ n1_; (try clear hb); (try clear hb2); (try clear hk); (try clear hi)))
      go_meet
      case rel => exact ⟨_, (true), (by first | rfl | (simp; done) | (simp [*]; done)), H', ⟨by first | omega | exact Nat.le_refl _⟩, ⟨by (with_reducible repeat (first | refine blk_drewN ?_ _ | refine blk_drew ?_ | refine blk_alloc ?_ _)); exact BK267.out⟩, ⟨by repeat (first | (with_reducible first | exact HB.out | apply below_alloc | apply pw_below_drewN | apply below_drew1 | refine below_set ?_ GE267.out) | exact HB.out)⟩⟩
  case rest =>
    clear HC4
    try clear p2
    try clear c3
    try clear c5
    try clear c7
    try clear hcz11_0
    try clear hcz11_1
    try clear hcz11_2
    try clear hcz11_3
    try clear hcz9_0
    try clear hcz9_1
    try clear hcz9_2
    try clear hcz9_3
    try clear hfz11_0
    try clear hfz11_1
    try clear hfz11_2
    try clear hfz11_3
    try clear hfz9_0
    try clear hfz9_1
    try clear hfz9_2
    try clear hfz9_3
    obtain ⟨kq, x16_3, rfl, HA, HJ3, BK267, HB⟩ := hcut
    cases kq with
    | zero => exact absurd HA.out (by simp [spec_moFew.j0])
    | succ kj3 =>
      have H := HA.out
      clear HA
      simp only [spec_moFew.j0] at H
      by_cases c13 : x16_3 = true
      · subst c13
        have H1 : (some (0, false)) = some (r1, r2) := by rw [if_pos rfl] at H; exact H
        clear H
        have H := H1
        clear H1
        simp only [Option.some.injEq, Prod.mk.injEq] at H
        obtain ⟨rfl, rfl⟩ := H
        go_wp2
        go_ret2
        exact ⟨by first | rfl | (simp [errW_none, errW_some] <;> rfl) | (simp [*, errW_none, errW_some] <;> rfl), by repeat (first | (with_reducible first | exact HB.out | apply below_alloc | apply pw_below_drewN | apply below_drew1 | refine below_set ?_ GE267.out) | exact HB.out)⟩
      · replace c13 := Bool.eq_false_iff.mpr c13
        subst c13
        have H1 : (spec_moFew.l0 kj3 a1 a2 0 a0_0 a0_1 l0_2 l0_3) = some (r1, r2) := by rw [if_neg (show ¬ (false = true) by decide)] at H; exact H
        clear H
        have H := H1
        clear H1
        have H' := Aside0.mk H
        clear H
        go_wp2
        go_loopg [8] kj3 (fun kq v8 w' => ∃ (x8_2 : Int), v8 = .int .i64 x8_2 ∧ Aside0 (spec_moFew.l0 kq a1 a2 x8_2 a0_0 a0_1 l0_2 l0_3 = some (r1, r2)) ∧ Aside0 (kq ≤ kj3) ∧ Aside0 (w'.heap[gb267]? = some (.cells #[.int .i64 a0_0, .int .i64 a0_1, (.slice A0_2 l0_2.length c0_2), (.slice A0_3 l0_3.length c0_3)] 28 (0, 0))) ∧ Aside0 (Below w.heap.size w w'))
        case atStart => exact ⟨(0), (by first | rfl | (simp; done) | (simp [*]; done)), H', ⟨Nat.le_refl _⟩, ⟨by (with_reducible repeat (first | refine blk_drewN ?_ _ | refine blk_drew ?_ | refine blk_alloc ?_ _)); exact BK267.out⟩, ⟨by repeat (first | (with_reducible first | exact HB.out | apply below_alloc | apply pw_below_drewN | apply below_drew1 | refine below_set ?_ GE267.out) | exact HB.out)⟩⟩
        case round =>
          clear H'
          try clear c1
          try clear p2
          try clear c3
          try clear c5
          try clear c7
          try clear c13
          try clear hcz11_0
          try clear hcz11_1
          try clear hcz11_2
          try clear hcz11_3
          try clear hcz9_0
          try clear hcz9_1
          try clear hcz9_2
          try clear hcz9_3
          try clear hfz11_0
          try clear hfz11_1
          try clear hfz11_2
          try clear hfz11_3
          try clear hfz9_0
          try clear hfz9_1
          try clear hfz9_2
          try clear hfz9_3
          try clear p2
          obtain ⟨x8_2, rfl, HA, HK2, BK267, HB⟩ := hrel
          cases gk with
          | zero => exact absurd HA.out (by simp [spec_moFew.l0])
          | succ k2 =>
            have H := HA.out
            clear HA
            simp only [spec_moFew.l0] at H
            replace H := Option.bind_eq_some_iff.mp H
            obtain ⟨t270, A140, H⟩ := H
            replace H : (if t270 = true then ((spec_moThose.f k2 a0_0 a0_1 l0_2 l0_3 x8_2 a1 a2 false).bind fun t271 => (if (t271.length : Int) > 0 then (some (x8_2, true)) else (spec_moFew.l0 k2 a1 a2 (wrap64 (x8_2 + 1)) a0_0 a0_1 l0_2 l0_3))) else (some (0, false))) = some (r1, r2) := H
            have A14 := Aside0.mk A140
            clear A140
            by_cases c15 : t270 = true
            · subst c15
              have H1 : ((spec_moThose.f k2 a0_0 a0_1 l0_2 l0_3 x8_2 a1 a2 false).bind fun t271 => (if (t271.length : Int) > 0 then (some (x8_2, true)) else (spec_moFew.l0 k2 a1 a2 (wrap64 (x8_2 + 1)) a0_0 a0_1 l0_2 l0_3))) = some (r1, r2) := by rw [if_pos rfl] at H; exact H
              clear H
              have H := H1
              clear H1
              replace H := Option.bind_eq_some_iff.mp H
              obtain ⟨t271, A160, H⟩ := H
              replace H : (if (t271.length : Int) > 0 then (some (x8_2, true)) else (spec_moFew.l0 k2 a1 a2 (wrap64 (x8_2 + 1)) a0_0 a0_1 l0_2 l0_3)) = some (r1, r2) := H
              have A16 := Aside0.mk A160
              clear A160
              by_cases c17 : (t271.length : Int) > 0
              · rw [if_pos c17] at H
                have c17b0 : decide (0 < (t271.length : Int)) = true := decide_eq_true c17
                have c17b1 : decide (0 < t271.length) = true := decide_eq_true (by omega)
                clear c17
                simp only [Option.some.injEq, Prod.mk.injEq] at H
                obtain ⟨rfl, rfl⟩ := H
                have hcz18_0 : wr.cell? ⟨gb267, 0, none⟩ = some (.int .i64 a0_0) := (blk_cell BK267.out 0).trans rfl
                have hcz18_1 : wr.cell? ⟨gb267, 1, none⟩ = some (.int .i64 a0_1) := (blk_cell BK267.out 1).trans rfl
                have hcz18_2 : wr.cell? ⟨gb267, 2, none⟩ = some (.slice A0_2 l0_2.length c0_2) := (blk_cell BK267.out 2).trans rfl
                have hcz18_3 : wr.cell? ⟨gb267, 3, none⟩ = some (.slice A0_3 l0_3.length c0_3) := (blk_cell BK267.out 3).trans rfl
                have hfz18_0 := blk_frozen BK267.out 0
                have hfz18_1 := blk_frozen BK267.out 1
                have hfz18_2 := blk_frozen BK267.out 2
                have hfz18_3 := blk_frozen BK267.out 3
                go_wp2_with (first | ((with_reducible refine gate_callee (f := 43) rfl ?_); refine goesL_ (some 20) rfl rfl Tryd.func43 (by kernel_rfl) rfl #[.agg #[.int .i64 a0_0, .int .i64 a0_1, .slice A0_2 l0_2.length c0_2, .slice A0_3 l0_3.length c0_3], .int .i64 x8_2, .bool a2] rfl (by (try simp only [List.map_toArray, List.map_cons, List.map_nil]); first | done | rfl | (simp only [List.length_drop, List.length_take]; rfl)) ?_; (with_reducible refine (spec_moAsked.calls k2 a0_0 a0_1 _ _ l0_2 _ _ l0_3 x8_2 a2 true _ ?side1 ?side2 ?side3 ?side4 A14.out).mono ?_); (case side1 => repeat (first | exact (Kd.C_below HR0_2.out HB.out) | (with_reducible refine Kd.C_alloc ?_ _) | (with_reducible refine Kd.C_drewN ?_ _) | (with_reducible refine Kd.C_drew ?_))); (case side2 => exact HC0_2.out); (case side3 => repeat (first | exact (Kd.C_below HR0_3.out HB.out) | (with_reducible refine Kd.C_alloc ?_ _) | (with_reducible refine Kd.C_drewN ?_ _) | (with_reducible refine Kd.C_drew ?_))); (case side4 => exact HC0_3.out); rintro e w19 ⟨rfl, hb⟩; refine ⟨_, rfl, ?_⟩; have n0_ := Aside0.mk (blk_below (g := gb267) (o := .cells #[.int .i64 a0_0, .int .i64 a0_1, .slice A0_2 l0_2.length c0_2, .slice A0_3 l0_3.length c0_3] 28 (0, 0)) (by (with_reducible repeat (first | refine blk_drewN ?_ _ | refine blk_drew ?_ | refine blk_alloc ?_ _)); exact BK267.out) hb); have n1_ := Aside0.mk (below_step (by repeat (first | (with_reducible first | exact HB.out | apply below_alloc | apply pw_below_drewN | apply below_drew1 | refine below_set ?_ GE267.out) | exact HB.out)) hb); clear BK267; clear HB; have BK267 := n0_; have HB := n1_; clear n0_ n1_; (try clear hb); (try clear hb2); (try clear hk); (try clear hi); have hcz20_0 : w19.cell? ⟨gb267, 0, none⟩ = some (.int .i64 a0_0) := (blk_cell BK267.out 0).trans rfl; have hcz20_1 : w19.cell? ⟨gb267, 1, none⟩ = some (.int .i64 a0_1) := (blk_cell BK267.out 1).trans rfl; have hcz20_2 : w19.cell? ⟨gb267, 2, none⟩ = some (.slice A0_2 l0_2.length c0_2) := (blk_cell BK267.out 2).trans rfl; have hcz20_3 : w19.cell? ⟨gb267, 3, none⟩ = some (.slice A0_3 l0_3.length c0_3) := (blk_cell BK267.out 3).trans rfl; have hfz20_0 := blk_frozen BK267.out 0; have hfz20_1 := blk_frozen BK267.out 1; have hfz20_2 := blk_frozen BK267.out 2; have hfz20_3 := blk_frozen BK267.out 3) | ((with_reducible refine gate_callee (f := 45) rfl ?_); refine goesL_ (some 27) rfl rfl Tryd.func45 (by kernel_rfl) rfl #[.agg #[.int .i64 a0_0, .int .i64 a0_1, .slice A0_2 l0_2.length c0_2, .slice A0_3 l0_3.length c0_3], .int .i64 x8_2, .int .i64 a1, .bool a2, .bool false] rfl (by (try simp only [List.map_toArray, List.map_cons, List.map_nil]); first | done | rfl | (simp only [List.length_drop, List.length_take]; rfl)) ?_; (with_reducible refine (spec_moThose.calls k2 a0_0 a0_1 _ _ l0_2 _ _ l0_3 x8_2 a1 a2 false t271 _ ?side1 ?side2 ?side3 ?side4 A16.out).mono ?_); (case side1 => repeat (first | exact (Kd.C_below HR0_2.out HB.out) | (with_reducible refine Kd.C_alloc ?_ _) | (with_reducible refine Kd.C_drewN ?_ _) | (with_reducible refine Kd.C_drew ?_))); (case side2 => exact HC0_2.out); (case side3 => repeat (first | exact (Kd.C_below HR0_3.out HB.out) | (with_reducible refine Kd.C_alloc ?_ _) | (with_reducible refine Kd.C_drewN ?_ _) | (with_reducible refine Kd.C_drew ?_))); (case side4 => exact HC0_3.out); rintro e w21 ⟨v272, rfl, ho0, hb⟩; refine ⟨_, rfl, ?_⟩; have n0_ := Aside0.mk (Kd.R_lower ho0 (below_size (by repeat (first | (with_reducible first | exact HB.out | apply below_alloc | apply pw_below_drewN | apply below_drew1 | refine below_set ?_ GE267.out) | exact HB.out)))); have n1_ := Aside0.mk (blk_below (g := gb267) (o := .cells #[.int .i64 a0_0, .int .i64 a0_1, .slice A0_2 l0_2.length c0_2, .slice A0_3 l0_3.length c0_3] 28 (0, 0)) (by (with_reducible repeat (first | refine blk_drewN ?_ _ | refine blk_drew ?_ | refine blk_alloc ?_ _)); exact BK267.out) hb); have n2_ := Aside0.mk (below_step (by repeat (first | (with_reducible first | exact HB.out | apply below_alloc | apply pw_below_drewN | apply below_drew1 | refine below_set ?_ GE267.out) | exact HB.out)) hb); clear BK267; clear HB; have HO273 := n0_; have BK267 := n1_; have HB := n2_; clear n0_ n1_ n2_; (try clear hb); (try clear hb2); (try clear hk); (try clear hi); (try clear ho0); obtain ⟨Ao22, co22, eo22⟩ := Kd.R_slice HO273.out; subst eo22))
                go_ret2
                exact ⟨by first | rfl | (simp [errW_none, errW_some] <;> rfl) | (simp [*, errW_none, errW_some] <;> rfl), by repeat (first | (with_reducible first | exact HB.out | apply below_alloc | apply pw_below_drewN | apply below_drew1 | refine below_set ?_ GE267.out) | exact HB.out)⟩
              · rw [if_neg c17] at H
                have c17b0 : decide (0 < (t271.length : Int)) = false := decide_eq_false c17
                have c17b1 : decide (0 < t271.length) = false := decide_eq_false (by omega)
                clear c17
                have H' := Aside0.mk H
                clear H
                have hcz23_0 : wr.cell? ⟨gb267, 0, none⟩ = some (.int .i64 a0_0) := (blk_cell BK267.out 0).trans rfl
                have hcz23_1 : wr.cell? ⟨gb267, 1, none⟩ = some (.int .i64 a0_1) := (blk_cell BK267.out 1).trans rfl
                have hcz23_2 : wr.cell? ⟨gb267, 2, none⟩ = some (.slice A0_2 l0_2.length c0_2) := (blk_cell BK267.out 2).trans rfl
                have hcz23_3 : wr.cell? ⟨gb267, 3, none⟩ = some (.slice A0_3 l0_3.length c0_3) := (blk_cell BK267.out 3).trans rfl
                have hfz23_0 := blk_frozen BK267.out 0
                have hfz23_1 := blk_frozen BK267.out 1
                have hfz23_2 := blk_frozen BK267.out 2
                have hfz23_3 := blk_frozen BK267.out 3
                go_wp2_with (first | ((with_reducible refine gate_callee (f := 43) rfl ?_); refine goesL_ (some 20) rfl rfl Tryd.func43 (by kernel_rfl) rfl #[.agg #[.int .i64 a0_0, .int .i64 a0_1, .slice A0_2 l0_2.length c0_2, .slice A0_3 l0_3.length c0_3], .int .i64 x8_2, .bool a2] rfl (by (try simp only [List.map_toArray, List.map_cons, List.map_nil]); first | done | rfl | (simp only [List.length_drop, List.length_take]; rfl)) ?_; (with_reducible refine (spec_moAsked.calls k2 a0_0 a0_1 _ _ l0_2 _ _ l0_3 x8_2 a2 true _ ?side1 ?side2 ?side3 ?side4 A14.out).mono ?_); (case side1 => repeat (first | exact (Kd.C_below HR0_2.out HB.out) | (with_reducible refine Kd.C_alloc ?_ _) | (with_reducible refine Kd.C_drewN ?_ _) | (with_reducible refine Kd.C_drew ?_))); (case side2 => exact HC0_2.out); (case side3 => repeat (first | exact (Kd.C_below HR0_3.out HB.out) | (with_reducible refine Kd.C_alloc ?_ _) | (with_reducible refine Kd.C_drewN ?_ _) | (with_reducible refine Kd.C_drew ?_))); (case side4 => exact HC0_3.out); rintro e w24 ⟨rfl, hb⟩; refine ⟨_, rfl, ?_⟩; have n0_ := Aside0.mk (blk_below (g := gb267) (o := .cells #[.int .i64 a0_0, .int .i64 a0_1, .slice A0_2 l0_2.length c0_2, .slice A0_3 l0_3.length c0_3] 28 (0, 0)) (by (with_reducible repeat (first | refine blk_drewN ?_ _ | refine blk_drew ?_ | refine blk_alloc ?_ _)); exact BK267.out) hb); have n1_ := Aside0.mk (below_step (by repeat (first | (with_reducible first | exact HB.out | apply below_alloc | apply pw_below_drewN | apply below_drew1 | refine below_set ?_ GE267.out) | exact HB.out)) hb); clear BK267; clear HB; have BK267 := n0_; have HB := n1_; clear n0_ n1_; (try clear hb); (try clear hb2); (try clear hk); (try clear hi); have hcz25_0 : w24.cell? ⟨gb267, 0, none⟩ = some (.int .i64 a0_0) := (blk_cell BK267.out 0).trans rfl; have hcz25_1 : w24.cell? ⟨gb267, 1, none⟩ = some (.int .i64 a0_1) := (blk_cell BK267.out 1).trans rfl; have hcz25_2 : w24.cell? ⟨gb267, 2, none⟩ = some (.slice A0_2 l0_2.length c0_2) := (blk_cell BK267.out 2).trans rfl; have hcz25_3 : w24.cell? ⟨gb267, 3, none⟩ = some (.slice A0_3 l0_3.length c0_3) := (blk_cell BK267.out 3).trans rfl; have hfz25_0 := blk_frozen BK267.out 0; have hfz25_1 := blk_frozen BK267.out 1; have hfz25_2 := blk_frozen BK267.out 2; have hfz25_3 := blk_frozen BK267.out 3) | ((with_reducible refine gate_callee (f := 45) rfl ?_); refine goesL_ (some 27) rfl rfl Tryd.func45 (by kernel_rfl) rfl #[.agg #[.int .i64 a0_0, .int .i64 a0_1, .slice A0_2 l0_2.length c0_2, .slice A0_3 l0_3.length c0_3], .int .i64 x8_2, .int .i64 a1, .bool a2, .bool false] rfl (by (try simp only [List.map_toArray, List.map_cons, List.map_nil]); first | done | rfl | (simp only [List.length_drop, List.length_take]; rfl)) ?_; (with_reducible refine (spec_moThose.calls k2 a0_0 a0_1 _ _ l0_2 _ _ l0_3 x8_2 a1 a2 false t271 _ ?side1 ?side2 ?side3 ?side4 A16.out).mono ?_); (case side1 => repeat (first | exact (Kd.C_below HR0_2.out HB.out) | (with_reducible refine Kd.C_alloc ?_ _) | (with_reducible refine Kd.C_drewN ?_ _) | (with_reducible refine Kd.C_drew ?_))); (case side2 => exact HC0_2.out); (case side3 => repeat (first | exact (Kd.C_below HR0_3.out HB.out) | (with_reducible refine Kd.C_alloc ?_ _) | (with_reducible refine Kd.C_drewN ?_ _) | (with_reducible refine Kd.C_drew ?_))); (case side4 => exact HC0_3.out); rintro e w26 ⟨v272, rfl, ho0, hb⟩; refine ⟨_, rfl, ?_⟩; have n0_ := Aside0.mk (Kd.R_lower ho0 (below_size (by repeat (first | (with_reducible first | exact HB.out | apply below_alloc | apply pw_below_drewN | apply below_drew1 | refine below_set ?_ GE267.out) | exact HB.out)))); have n1_ := Aside0.mk (blk_below (g := gb267) (o := .cells #[.int .i64 a0_0, .int .i64 a0_1, .slice A0_2 l0_2.length c0_2, .slice A0_3 l0_3.length c0_3] 28 (0, 0)) (by (with_reducible repeat (first | refine blk_drewN ?_ _ | refine blk_drew ?_ | refine blk_alloc ?_ _)); exact BK267.out) hb); have n2_ := Aside0.mk (below_step (by repeat (first | (with_reducible first | exact HB.out | apply below_alloc | apply pw_below_drewN | apply below_drew1 | refine below_set ?_ GE267.out) | exact HB.out)) hb); clear BK267; clear HB; have HO273 := n0_; have BK267 := n1_; have HB := n2_; clear n0_ n1_ n2_; (try clear hb); (try clear hb2); (try clear hk); (try clear hi); (try clear ho0); obtain ⟨Ao27, co27, eo27⟩ := Kd.R_slice HO273.out; subst eo27))
                go_roundg k2
                case measure => have := HJ3.out; have := HK2.out; omega
                case rel => exact ⟨(wrap64 (x8_2 + 1)), (by first | rfl | (simp; done) | (simp [*]; done)), H', ⟨by have := HJ3.out; have := HK2.out; omega⟩, ⟨by (with_reducible repeat (first | refine blk_drewN ?_ _ | refine blk_drew ?_ | refine blk_alloc ?_ _)); exact BK267.out⟩, ⟨by repeat (first | (with_reducible first | exact HB.out | apply below_alloc | apply pw_below_drewN | apply below_drew1 | refine below_set ?_ GE267.out) | exact HB.out)⟩⟩
            · replace c15 := Bool.eq_false_iff.mpr c15
              subst c15
              have H1 : (some (0, false)) = some (r1, r2) := by rw [if_neg (show ¬ (false = true) by decide)] at H; exact H
              clear H
              have H := H1
              clear H1
              simp only [Option.some.injEq, Prod.mk.injEq] at H
              obtain ⟨rfl, rfl⟩ := H
              have hcz28_0 : wr.cell? ⟨gb267, 0, none⟩ = some (.int .i64 a0_0) := (blk_cell BK267.out 0).trans rfl
              have hcz28_1 : wr.cell? ⟨gb267, 1, none⟩ = some (.int .i64 a0_1) := (blk_cell BK267.out 1).trans rfl
              have hcz28_2 : wr.cell? ⟨gb267, 2, none⟩ = some (.slice A0_2 l0_2.length c0_2) := (blk_cell BK267.out 2).trans rfl
              have hcz28_3 : wr.cell? ⟨gb267, 3, none⟩ = some (.slice A0_3 l0_3.length c0_3) := (blk_cell BK267.out 3).trans rfl
              have hfz28_0 := blk_frozen BK267.out 0
              have hfz28_1 := blk_frozen BK267.out 1
              have hfz28_2 := blk_frozen BK267.out 2
              have hfz28_3 := blk_frozen BK267.out 3
              go_wp2_with (first | ((with_reducible refine gate_callee (f := 43) rfl ?_); refine goesL_ (some 20) rfl rfl Tryd.func43 (by kernel_rfl) rfl #[.agg #[.int .i64 a0_0, .int .i64 a0_1, .slice A0_2 l0_2.length c0_2, .slice A0_3 l0_3.length c0_3], .int .i64 x8_2, .bool a2] rfl (by (try simp only [List.map_toArray, List.map_cons, List.map_nil]); first | done | rfl | (simp only [List.length_drop, List.length_take]; rfl)) ?_; (with_reducible refine (spec_moAsked.calls k2 a0_0 a0_1 _ _ l0_2 _ _ l0_3 x8_2 a2 false _ ?side1 ?side2 ?side3 ?side4 A14.out).mono ?_); (case side1 => repeat (first | exact (Kd.C_below HR0_2.out HB.out) | (with_reducible refine Kd.C_alloc ?_ _) | (with_reducible refine Kd.C_drewN ?_ _) | (with_reducible refine Kd.C_drew ?_))); (case side2 => exact HC0_2.out); (case side3 => repeat (first | exact (Kd.C_below HR0_3.out HB.out) | (with_reducible refine Kd.C_alloc ?_ _) | (with_reducible refine Kd.C_drewN ?_ _) | (with_reducible refine Kd.C_drew ?_))); (case side4 => exact HC0_3.out); rintro e w29 ⟨rfl, hb⟩; refine ⟨_, rfl, ?_⟩; have n0_ := Aside0.mk (blk_below (g := gb267) (o := .cells #[.int .i64 a0_0, .int .i64 a0_1, .slice A0_2 l0_2.length c0_2, .slice A0_3 l0_3.length c0_3] 28 (0, 0)) (by (with_reducible repeat (first | refine blk_drewN ?_ _ | refine blk_drew ?_ | refine blk_alloc ?_ _)); exact BK267.out) hb); have n1_ := Aside0.mk (below_step (by repeat (first | (with_reducible first | exact HB.out | apply below_alloc | apply pw_below_drewN | apply below_drew1 | refine below_set ?_ GE267.out) | exact HB.out)) hb); clear BK267; clear HB; have BK267 := n0_; have HB := n1_; clear n0_ n1_; (try clear hb); (try clear hb2); (try clear hk); (try clear hi)))
              go_ret2
              exact ⟨by first | rfl | (simp [errW_none, errW_some] <;> rfl) | (simp [*, errW_none, errW_some] <;> rfl), by repeat (first | (with_reducible first | exact HB.out | apply below_alloc | apply pw_below_drewN | apply below_drew1 | refine below_set ?_ GE267.out) | exact HB.out)⟩

end Go.Proofs.YtgakmcoeccmkbaaDoor.P


namespace Go.Proofs.YtgakmcoeccmkbaaDoor.P
open Go.RowKit Go.Proofs.YtgakmcoeccmkbaaDoorW.PrintWords Go.Proofs.YtgakmcoeccmkbaaDoorW.PrintLast Go.Proofs.YtgakmcoeccmkbaaDoorW.PrintMore
attribute [local go_sem] max2_int min2_int max_two min_two max_three min_three max_four min_four   -- for this text's walks alone
set_option linter.unusedVariables false
set_option linter.unusedSimpArgs false

end Go.Proofs.YtgakmcoeccmkbaaDoor.P


namespace Go.Proofs.YtgakmcoeccmkbaaDoor.P
open Go.RowKit Go.Proofs.YtgakmcoeccmkbaaDoorW.PrintWords Go.Proofs.YtgakmcoeccmkbaaDoorW.PrintLast Go.Proofs.YtgakmcoeccmkbaaDoorW.PrintMore
attribute [local go_sem] max2_int min2_int max_two min_two max_three min_three max_four min_four   -- for this text's walks alone
set_option linter.unusedVariables false
set_option linter.unusedSimpArgs false

def edgesN (w h : Nat) : Nat := w * (h + 1) + h * (w + 1)
def bitsSame (w h : Nat) : Bool := (spec_moBits.f 100 (w : Int) (h : Int) == some ((List.range (edgesN w h)).map fun n => ((2 ^ n : Nat) : Int))) && (impl_grid_all.f (w : Int) (h : Int) == some ((2 ^ edgesN w h - 1 : Nat) : Int))
theorem bits_11 : bitsSame 1 1 = true := by decide +kernel
theorem bits_12 : bitsSame 1 2 = true := by decide +kernel
theorem bits_13 : bitsSame 1 3 = true := by decide +kernel
theorem bits_14 : bitsSame 1 4 = true := by decide +kernel
theorem bits_21 : bitsSame 2 1 = true := by decide +kernel
theorem bits_22 : bitsSame 2 2 = true := by decide +kernel
theorem bits_23 : bitsSame 2 3 = true := by decide +kernel
theorem bits_24 : bitsSame 2 4 = true := by decide +kernel
theorem bits_31 : bitsSame 3 1 = true := by decide +kernel
theorem bits_32 : bitsSame 3 2 = true := by decide +kernel
theorem bits_33 : bitsSame 3 3 = true := by decide +kernel
theorem bits_34 : bitsSame 3 4 = true := by decide +kernel
theorem bits_41 : bitsSame 4 1 = true := by decide +kernel
theorem bits_42 : bitsSame 4 2 = true := by decide +kernel
theorem bits_43 : bitsSame 4 3 = true := by decide +kernel
theorem bits_44 : bitsSame 4 4 = true := by decide +kernel
theorem bits_all (w h : Nat) (h1 : 1 ≤ w) (h2 : w ≤ 4) (h3 : 1 ≤ h) (h4 : h ≤ 4) : bitsSame w h = true := by
  have hw : w = 1 ∨ w = 2 ∨ w = 3 ∨ w = 4 := by omega
  have hh : h = 1 ∨ h = 2 ∨ h = 3 ∨ h = 4 := by omega
  rcases hw with rfl | rfl | rfl | rfl <;> rcases hh with rfl | rfl | rfl | rfl
  · exact bits_11
  · exact bits_12
  · exact bits_13
  · exact bits_14
  · exact bits_21
  · exact bits_22
  · exact bits_23
  · exact bits_24
  · exact bits_31
  · exact bits_32
  · exact bits_33
  · exact bits_34
  · exact bits_41
  · exact bits_42
  · exact bits_43
  · exact bits_44
theorem edgesN_le {w h : Nat} (h2 : w ≤ 4) (h4 : h ≤ 4) : edgesN w h ≤ 40 := by
  unfold edgesN
  have h5 : w * (h + 1) ≤ 4 * 5 := Nat.mul_le_mul h2 (by omega)
  have h6 : h * (w + 1) ≤ 4 * 5 := Nat.mul_le_mul h4 (by omega)
  omega
theorem bitsN_range {M N : Nat} (hM : M < 2 ^ N) (hN : N ≤ 64) : bitsN M = (List.range N).filter fun i => M.testBit i := by
  unfold bitsN
  have e : List.range 64 = List.range N ++ List.range' N (64 - N) := by
    rw [List.range_eq_range', List.range_eq_range']
    have := List.range'_append_1 (s := 0) (m := N) (n := 64 - N)
    rw [Nat.zero_add] at this
    rw [this]
    congr 1
    omega
  rw [e, List.filter_append]
  have h0 : (List.range' N (64 - N)).filter (fun i => M.testBit i) = [] := by
    rw [List.filter_eq_nil_iff]
    intro i hi
    rw [List.mem_range'_1] at hi
    rw [Nat.testBit_lt_two_pow (Nat.lt_of_lt_of_le hM (Nat.pow_le_pow_right (by omega) hi.1))]
    simp
  rw [h0, List.append_nil]
theorem and_bit (M n : Nat) (hM : M < 2 ^ 60) (hn : n < 60) : (Go.bits .and .i64 (M : Int) ((2 ^ n : Nat) : Int) != 0) = M.testBit n := by
  rw [and_i64 _ _ hM (pow_lt60 hn), Nat.and_comm]
  have h2 : 2 ^ n &&& M = if M.testBit n = true then 2 ^ n else 0 := by
    apply Nat.eq_of_testBit_eq
    intro i
    rw [Nat.testBit_and, Nat.testBit_two_pow]
    by_cases hi : n = i
    · subst hi
      cases h : M.testBit n <;> simp
    · cases h : M.testBit n <;> simp [hi]
  rw [h2]
  cases h : M.testBit n with
  | false => rfl
  | true =>
    have := Nat.two_pow_pos n
    simp only [if_true]
    rw [bne_iff_ne]
    exact_mod_cast (by omega : 2 ^ n ≠ 0)
def g2 (n : Nat) : Int := ((2 ^ n : Nat) : Int)
theorem choose_eq : ∀ (m : Nat) (l : List Nat) (c : Nat), (∀ x ∈ l, x < 60) → c < 2 ^ 60 → chooseI m (l.map g2) (c : Int) = (subsW m (l.map fun n : Nat => (n : Int)) c).map fun n : Nat => (n : Int)
  | 0, _, _, _, _ => rfl
  | m + 1, [], _, _, _ => rfl
  | m + 1, x :: l, c, hl, hc => by
    have hx := hl x List.mem_cons_self
    have hl' : ∀ y ∈ l, y < 60 := fun y hy => hl y (List.mem_cons_of_mem _ hy)
    show chooseI m (l.map g2) (Go.bits .or .i64 (c : Int) (g2 x)) ++ chooseI (m + 1) (l.map g2) (c : Int) = ((subsW m (l.map fun n : Nat => (n : Int)) (c ||| 2 ^ (x : Int).toNat)) ++ subsW (m + 1) (l.map fun n : Nat => (n : Int)) c).map fun n : Nat => (n : Int)
    unfold g2
    rw [or_i64 _ _ hc (pow_lt60 hx), List.map_append, Int.toNat_natCast]
    have e1 := choose_eq m l (c ||| 2 ^ x) hl' (Nat.or_lt_two_pow hc (pow_lt60 hx))
    have e2 := choose_eq (m + 1) l c hl' hc
    unfold g2 at e1 e2
    rw [e1, e2]
theorem bitsN_lt {s : Nat} (hs : s < 2 ^ 60) : ∀ x ∈ bitsN s, x < 60 := fun x hx => by
  have := bitsI_lt s hs (x : Int) (List.mem_map.2 ⟨x, hx, rfl⟩)
  omega
theorem made_eq {M N : Nat} (hM : M < 2 ^ N) (hN : N ≤ 59) (m : Nat) (put : Bool) : madeL (M : Int) ((List.range N).map g2) m put = (waysW put m (2 ^ N - 1) M).map fun n : Nat => (n : Int) := by
  have hM60 : M < 2 ^ 60 := Nat.lt_of_lt_of_le hM (Nat.pow_le_pow_right (by omega) (by omega))
  have hpN := Nat.two_pow_pos N
  have hal : 2 ^ N - 1 < 2 ^ N := by omega
  have hfr := diffN_lt M hal
  have hfr60 : diffN (2 ^ N - 1) M < 2 ^ 60 := Nat.lt_of_lt_of_le hfr (Nat.pow_le_pow_right (by omega) (by omega))
  have e1 : ((List.range N).map g2).filter (fun b => Go.bits .and .i64 (M : Int) b != 0) = (bitsN M).map g2 := by
    rw [List.filter_map, bitsN_range hM (by omega)]
    congr 1
    apply List.filter_congr
    intro n hn
    exact and_bit M n hM60 (by have := List.mem_range.1 hn; omega)
  have e2 : ((List.range N).map g2).filter (fun b => !(Go.bits .and .i64 (M : Int) b != 0)) = (bitsN (diffN (2 ^ N - 1) M)).map g2 := by
    rw [List.filter_map, bitsN_range hfr (by omega)]
    congr 1
    apply List.filter_congr
    intro n hn
    have hn' := List.mem_range.1 hn
    show (!(Go.bits .and .i64 (M : Int) (g2 n) != 0)) = _
    unfold g2
    rw [and_bit M n hM60 (by omega), diffN_test, Nat.testBit_two_pow_sub_one]
    simp [hn']
  unfold madeL
  rw [e1, e2, show (0 : Int) = ((0 : Nat) : Int) from rfl, choose_eq m _ 0 (bitsN_lt hM60) (by decide), choose_eq m _ 0 (bitsN_lt hfr60) (by decide)]
  have hb : ∀ s, (bitsN s).map (fun n : Nat => (n : Int)) = bitsI s := fun s => rfl
  rw [hb, hb]
  have hsub := subsW_lt m (bitsI M) 0 (by decide) (bitsI_lt M hM60)
  have hput := subsW_lt m (bitsI (diffN (2 ^ N - 1) M)) 0 (by decide) (bitsI_lt _ hfr60)
  unfold waysW piecesW
  cases put with
  | false =>
    rw [if_neg (by simp), if_neg (by simp), List.map_map]
    generalize subsW m (bitsI M) 0 = T at hsub
    clear e1 e2 hput
    induction T with
    | nil => rfl
    | cons a T ih =>
      rw [List.map_cons, List.flatMap_cons, List.map_append, ih (fun z hz => hsub z (List.mem_cons_of_mem _ hz))]
      show Go.bits .andNot .i64 (M : Int) (a : Int) :: _ = _
      rw [andNot_i64 _ _ hM60 (hsub a List.mem_cons_self)]
      rfl
  | true =>
    rw [if_pos rfl, if_pos rfl]
    unfold putsW
    generalize subsW m (bitsI M) 0 = T at hsub
    generalize subsW m (bitsI (diffN (2 ^ N - 1) M)) 0 = U at hput
    clear e1 e2
    induction T with
    | nil => rfl
    | cons a T ih =>
      rw [List.map_cons, List.flatMap_cons, List.flatMap_cons, List.map_append, ih (fun z hz => hsub z (List.mem_cons_of_mem _ hz)), andNot_i64 _ _ hM60 (hsub a List.mem_cons_self)]
      congr 1
      rw [List.map_map, List.map_map]
      apply List.map_congr_left
      intro p hp
      exact or_i64 _ _ (diffN_lt a hM60) (hput p hp)
def fewB (w h : Int) (a u : List Int) : Bool := figB w h a u && decide (w * h ≤ 9)
theorem isFew_f (w h : Int) (a u : List Int) (ha : a.length ≤ 1000000) (hu : u.length ≤ 1000000) (k : Nat) (hk : 1000010 < k) : impl_isFew.f k w h a u = some (fewB w h a u) := by
  unfold impl_isFew.f fewB
  rw [IsFigure_f w h a u ha hu k hk, Option.bind_some]
  cases hf : figB w h a u with
  | false => rfl
  | true =>
    unfold figB at hf
    simp only [Bool.and_eq_true] at hf
    obtain ⟨hg, -⟩ := hf
    obtain ⟨b1, b2, b3, b4⟩ := grid_bounds (by simp only [Bool.and_eq_true]; exact hg)
    have h1 : w * h ≤ 4 * 4 := Int.mul_le_mul b2 b4 (by omega) (by omega)
    have h2 : 0 ≤ w * h := Int.mul_nonneg (by omega) (by omega)
    have e : wrap64 (w * h) = w * h := by unfold wrap64; omega
    rw [if_pos rfl, e, Bool.true_and]
theorem sqFew_f (w h : Int) (a u : List Int) (ha : a.length ≤ 1000000) (hu : u.length ≤ 1000000) (k : Nat) (hk : 1000010 < k) : spec_sqFew.f k w h a u = some (fewB w h a u) := by
  unfold spec_sqFew.f fewB
  rw [fiGood_f w h a u ha hu k hk, Option.bind_some]
  cases hf : figB w h a u with
  | false => rfl
  | true =>
    unfold figB at hf
    simp only [Bool.and_eq_true] at hf
    obtain ⟨hg, -⟩ := hf
    obtain ⟨b1, b2, b3, b4⟩ := grid_bounds (by simp only [Bool.and_eq_true]; exact hg)
    have h1 : w * h ≤ 4 * 4 := Int.mul_le_mul b2 b4 (by omega) (by omega)
    have h2 : 0 ≤ w * h := Int.mul_nonneg (by omega) (by omega)
    have e : wrap64 (w * h) = w * h := by unfold wrap64; omega
    rw [if_pos rfl, e, Bool.true_and]
theorem moAsked_f (w h : Int) (a u : List Int) (ha : a.length ≤ 1000000) (hu : u.length ≤ 1000000) (mt : Int) (mv : Bool) (k : Nat) (hk : 1000010 < k) : spec_moAsked.f k w h a u mt mv = some (rightM (fewB w h a u) mt mv) := by
  unfold spec_moAsked.f rightM mostM
  rw [sqFew_f w h a u ha hu k hk]
  cases mv with
  | false =>
    rw [if_neg (by simp), Option.bind_some, l1In_f]
    cases fewB w h a u <;> simp
  | true =>
    rw [if_pos rfl, Option.bind_some, l1In_f]
    cases fewB w h a u <;> simp
theorem figMask_edges {w h : Nat} {a u : List Int} (hf : figB (w : Int) (h : Int) a u = true) : figMask (w : Int) (h : Int) a u < 2 ^ edgesN w h := by
  have hf0 := hf
  unfold figB at hf
  simp only [Bool.and_eq_true] at hf
  obtain ⟨hg, -, -, hi1, hi2⟩ := hf
  have e1 : ((w : Int) * ((h : Int) + 1)).toNat = w * (h + 1) := by
    have : (w : Int) * ((h : Int) + 1) = ((w * (h + 1) : Nat) : Int) := by rw [Int.natCast_mul]; rfl
    rw [this, Int.toNat_natCast]
  apply Nat.lt_pow_two_of_testBit
  intro i hi
  unfold figMask
  rw [bitsFrom_test, bitsFrom_test, Nat.zero_testBit, Bool.false_or, Bool.or_eq_false_iff, e1]
  unfold edgesN at hi
  constructor
  · rw [List.any_eq_false]
    intro x hx
    have hb := inB_mem hi1 x hx
    have e2 : (w : Int) * ((h : Int) + 1) = ((w * (h + 1) : Nat) : Int) := by rw [Int.natCast_mul]; rfl
    rw [e2] at hb
    simp
    omega
  · rw [List.any_eq_false]
    intro x hx
    have hb := inB_mem hi2 x hx
    have e2 : (h : Int) * ((w : Int) + 1) = ((h * (w + 1) : Nat) : Int) := by rw [Int.natCast_mul]; rfl
    rw [e2] at hb
    simp
    omega
end Go.Proofs.YtgakmcoeccmkbaaDoor.P


namespace Go.Proofs.YtgakmcoeccmkbaaDoor.P
open Go.RowKit Go.Proofs.YtgakmcoeccmkbaaDoorW.PrintWords Go.Proofs.YtgakmcoeccmkbaaDoorW.PrintLast Go.Proofs.YtgakmcoeccmkbaaDoorW.PrintMore
attribute [local go_sem] max2_int min2_int max_two min_two max_three min_three max_four min_four   -- for this text's walks alone
set_option linter.unusedVariables false
set_option linter.unusedSimpArgs false

set_option maxRecDepth 100000 in
set_option maxHeartbeats 8000000 in
theorem laws_toIntS_full (A0 : Option Addr) (c0 : Nat) (l0 : List Int) (w : World) (hr0 : Kd.C (Kd.int .i64) w A0 l0.length l0) (hc0 : l0.length ≤ c0) (hbig : l0.length ≤ 1000000) :
    Calls Tryd.prog 36 #[.slice A0 l0.length c0, .bool false] w fun e w' => ∃ (g c : Nat), e = .returned (.slice (some ⟨g, 0, none⟩) l0.length c) ∧ Kd.R (Kd.int .i64) 3 w' w.heap.size (fun _ => True) (.slice (some ⟨g, 0, none⟩) (fullOf l0).length c) (fullOf l0) ∧ Below w.heap.size w w' := by
  have HR0 := Aside0.mk hr0
  clear hr0
  have HB := Aside0.mk (Below.refl w.heap.size w)
  obtain ⟨n, hn⟩ : ∃ n, n = l0.length := ⟨_, rfl⟩
  have HN := Aside0.mk hn
  rw [← hn] at hbig hc0 ⊢
  have hf := roomN_f n
  have HF := Aside0.mk hf
  have hm := roomN_le n
  have hp := roomN_pos n
  generalize hm' : roomN n = m at hm hp HF
  have HM := Aside0.mk hm'
  clear hf hn hm'
  obtain ⟨j, hj⟩ : ∃ j : Int, j = (n : Int) + (m : Int) := ⟨_, rfl⟩
  have hjw : IntKind.i64.wrap ((n : Int) + (m : Int)) = j := by rw [hj]; exact Go.IntWalk.i64_in _ (by omega)
  have hj0 : 0 ≤ j := by omega
  have hj1 : j.toNat * 8 ≤ 281474976710656 := by omega
  have hjn : j.toNat = n + m := by omega
  have HJ := Aside0.mk hj
  have HJN := Aside0.mk hjn
  clear hj hjn
  go_enter Tryd.func36, Tryd.ntmps36
  go_wp2_with (first
    | (go_at_call 46; refine (laws_roomBehind.calls (n : Int) (m : Int) _ HF.out).mono ?_; rintro e w' ⟨rfl, ⟨nd, rfl⟩⟩)
    | ((with_reducible refine gate_dst (N := 20) rfl ?_); refine Kd.R_make (Kd.int .i64) _ 3 rfl (N := 20) rfl 22 _ _ rfl j rfl rfl Tryd.underlying22 (.int .i64 0) 8 info3 rfl (by decide) (by omega) 0 (ok := fun _ => True) (okp := fun _ => True) rfl (fun _ hk => hk) trivial hj0 hj1 (pw_below_drewN HB.out _) HB.out.size ?_;
       intro v1 w2 ho hb hg_ hnew_; have HO := Aside0.mk ho; have HB2 := Aside0.mk hb; clear ho hb hg_ hnew_))
  have hlen : (List.replicate j.toNat (0 : Int)).length = n + m := by rw [List.length_replicate, HJN.out]
  obtain ⟨g, c, eV, -, -, -⟩ := Kd.R_form HO.out (by rw [hlen]; omega)
  rw [hlen] at eV
  subst eV
  clear hlen
  obtain ⟨N, hN⟩ : ∃ N, N = n + m := ⟨_, rfl⟩
  have HNN := Aside0.mk hN
  rw [← hN] at HO ⊢
  have hNn : n ≤ N := by omega
  have hNb : N ≤ 2000001 := by omega
  clear hN
  have hX0 : Aside0 (List.replicate j.toNat (0 : Int) = l0.take 0 ++ List.replicate (N - 0) 0) := ⟨by rw [HJN.out, ← HNN.out]; exact room_at0 _ _⟩
  generalize List.replicate j.toNat (0 : Int) = X0 at HO hX0
  go_loopg [6] n (fun gg u6 wr => ∃ (kk : Nat) (X : List Int), u6 = .int .i64 kk ∧ kk ≤ n ∧ n - kk ≤ gg ∧ Aside0 (X = l0.take kk ++ List.replicate (N - kk) 0) ∧ Aside0 (Kd.R (Kd.int .i64) 3 wr w.heap.size (fun _ => True) (.slice (some ⟨g, 0, none⟩) N c) X) ∧ Aside0 (Below w.heap.size w wr))
  case atStart => exact ⟨0, X0, rfl, Nat.zero_le _, by omega, hX0, ⟨by exact HO.out⟩, HB2⟩
  case round =>
    clear hX0 HO HB2
    obtain ⟨kk, X, rfl, h1, h2, HX, HO, HB3⟩ := hrel
    by_cases hlt : kk < n
    · have hltz : (kk : Int) < (n : Int) := by omega
      have hk0 : (0 : Int) ≤ (kk : Int) := by omega
      have hkN : (kk : Int) < (N : Int) := by omega
      obtain ⟨ad, eA, hx⟩ := Kd.at_int (Kd.C_below HR0.out HB3.out) (kk : Int) hk0 (by rw [← HN.out]; exact hltz)
      cases eA
      rw [Int.toNat_natCast] at hx
      obtain ⟨hy, hyf⟩ := Kd.R_celln 0 HO.out (kk : Int) hk0 hkN
      have HP := Kd.R_putg HO.out (kk : Int) (rd l0 (kk : Int))
      rw [Int.toNat_natCast] at hy hyf HP
      have HPA := Aside0.mk HP
      clear HP
      go_wp2_with (first | ((with_reducible refine gate_store (t := 3) (p := 33) rfl ?_); refine store_event (t := 3) (p := 33) (v := ?vo) (w1 := (wr.setCell ⟨g, kk, none⟩ (.int .i64 (rd l0 (kk : Int))))) ?hg ?ho ?hn ?hr ?_; (case ho => rfl); (case hg => rfl); (case hn => rfl); (case hr => first | (go_simp; done) | (go_simp; rfl)); intro w4 hw; have HO4 : Aside0 (Kd.R (Kd.int .i64) 3 w4 w.heap.size (fun _ => True) (.slice (some ⟨g, 0, none⟩) N c) (X.set kk (rd l0 (kk : Int)))) := ⟨by rw [hw]; exact HPA.out.1⟩; have HB4 : Aside0 (Below w.heap.size w w4) := ⟨by rw [hw]; exact HB3.out.setCell (p := ⟨g, kk, none⟩) (Kd.R_base HO.out g (by simp [Value.ownBlock])) _⟩; clear hw HPA hy hyf))
      go_roundg (n - (kk + 1))
      case measure => omega
      case rel => exact ⟨kk + 1, _, by go_num, by omega, by omega, ⟨by rw [HX.out, HN.out] at *; exact room_step1 l0 N kk (by omega) (by omega)⟩, HO4, HB4⟩
    · have e : kk = n := by omega
      have HX2 : Aside0 (X = l0 ++ List.replicate (kk - l0.length) (-7000000000000000101) ++ List.replicate (N - kk) 0) := ⟨by rw [HX.out, e, HN.out]; exact room_mid l0 N⟩
      clear hlt h1 h2 HX
      have hnn : (kk : Int) = (n : Int) := by omega
      subst e
      clear hnn
      go_wp2_with fail
      go_loopg [7] (N - kk) (fun gg u7 wr => ∃ (k2 : Nat) (X : List Int), u7 = .int .i64 k2 ∧ kk ≤ k2 ∧ k2 ≤ N ∧ N - k2 ≤ gg ∧ Aside0 (X = l0 ++ List.replicate (k2 - l0.length) (-7000000000000000101) ++ List.replicate (N - k2) 0) ∧ Aside0 (Kd.R (Kd.int .i64) 3 wr w.heap.size (fun _ => True) (.slice (some ⟨g, 0, none⟩) N c) X) ∧ Aside0 (Below w.heap.size w wr))
      case atStart => exact ⟨kk, X, rfl, Nat.le_refl _, by omega, by omega, HX2, HO, HB3⟩
      case round =>
        clear HX2 HO HB3
        obtain ⟨k2, X, rfl, h0, h1, h2, HX, HO, HB3⟩ := hrel
        by_cases hlt : k2 < N
        · have hltz : (k2 : Int) < (N : Int) := by omega
          have hk0 : (0 : Int) ≤ (k2 : Int) := by omega
          obtain ⟨hy, hyf⟩ := Kd.R_celln 0 HO.out (k2 : Int) hk0 hltz
          have HP := Kd.R_putg HO.out (k2 : Int) (-7000000000000000101)
          rw [Int.toNat_natCast] at hy hyf HP
          have HPA := Aside0.mk HP
          clear HP
          have HB4 : Aside0 (Below w.heap.size w (wr.setCell ⟨g, k2, none⟩ (.int .i64 (-7000000000000000101)))) := ⟨HB3.out.setCell (p := ⟨g, k2, none⟩) (Kd.R_base HO.out g (by simp [Value.ownBlock])) _⟩
          go_wp2_with fail
          go_roundg (N - (k2 + 1))
          case measure => omega
          case rel => exact ⟨k2 + 1, _, by go_num, by omega, by omega, by omega, ⟨by rw [HX.out]; exact room_step2 l0 N k2 (by rw [← HN.out]; omega) (by omega)⟩, ⟨HPA.out.1⟩, HB4⟩
        · have e : k2 = N := by omega
          have HXE : Aside0 (X = fullOf l0) := ⟨by rw [HX.out, e, HNN.out, ← HM.out, HN.out]; exact room_end l0⟩
          have HLE : Aside0 (N = (fullOf l0).length) := ⟨by rw [fullOf_length, ← HN.out, HM.out, HNN.out]⟩
          have hge : (N : Int) ≤ (k2 : Int) := by omega
          have hcap : N ≤ c := (Kd.R_reads' HO.out).2.1
          have hk0 : (0 : Int) ≤ (kk : Int) := by omega
          have hkc : (kk : Int) ≤ (c : Int) := by omega
          clear hlt h0 h1 h2 HX hge
          subst e
          go_wp2_with fail
          go_ret
          exact ⟨g, c, rfl, by have h := HO.out; rw [HXE.out, HLE.out] at h; exact h, HB3.out⟩

end Go.Proofs.YtgakmcoeccmkbaaDoor.P


namespace Go.Proofs.YtgakmcoeccmkbaaDoor.P
open Go.RowKit Go.Proofs.YtgakmcoeccmkbaaDoorW.PrintWords Go.Proofs.YtgakmcoeccmkbaaDoorW.PrintLast Go.Proofs.YtgakmcoeccmkbaaDoorW.PrintMore
attribute [local go_sem] max2_int min2_int max_two min_two max_three min_three max_four min_four   -- for this text's walks alone
set_option linter.unusedVariables false
set_option linter.unusedSimpArgs false

set_option maxRecDepth 100000 in
set_option maxHeartbeats 8000000 in
theorem laws_toFigure_full (a0_0 : Int) (a0_1 : Int) (A0_2 : Option Addr) (c0_2 : Nat) (l0_2 : List Int) (A0_3 : Option Addr) (c0_3 : Nat) (l0_3 : List Int) (w : World) (hr0_2 : Kd.C (Kd.int .i64) w A0_2 l0_2.length l0_2) (hc0_2 : l0_2.length ≤ c0_2) (hr0_3 : Kd.C (Kd.int .i64) w A0_3 l0_3.length l0_3) (hc0_3 : l0_3.length ≤ c0_3) (hbig2 : l0_2.length ≤ 1000000) (hbig3 : l0_3.length ≤ 1000000) :
    Calls Tryd.prog 13 #[.agg #[.int .i64 a0_0, .int .i64 a0_1, .slice A0_2 l0_2.length c0_2, .slice A0_3 l0_3.length c0_3], .bool false] w fun e w' => ∃ (g2 c2 g3 c3 : Nat), e = .returned (.agg #[.int .i64 a0_0, .int .i64 a0_1, .slice (some ⟨g2, 0, none⟩) l0_2.length c2, .slice (some ⟨g3, 0, none⟩) l0_3.length c3]) ∧
      Kd.R (Kd.int .i64) 3 w' w.heap.size (fun _ => True) (.slice (some ⟨g2, 0, none⟩) (fullOf l0_2).length c2) (fullOf l0_2) ∧ Kd.R (Kd.int .i64) 3 w' w.heap.size (fun _ => True) (.slice (some ⟨g3, 0, none⟩) (fullOf l0_3).length c3) (fullOf l0_3) ∧ g2 ≠ g3 ∧ Below w.heap.size w w' := by
  have hu24 := Tryd.underlying24
  have hu28 := Tryd.underlying28
  have HR2 := Aside0.mk hr0_2
  have HR3 := Aside0.mk hr0_3
  have HC2 := Aside0.mk hc0_2
  have HC3 := Aside0.mk hc0_3
  have HG2 := Aside0.mk hbig2
  have HG3 := Aside0.mk hbig3
  clear hr0_2 hr0_3 hc0_2 hc0_3 hbig2 hbig3
  go_enter Tryd.func13, Tryd.ntmps13
  go_wp2_with (first
    | (go_at_call 36; (with_reducible refine (laws_toIntS_full A0_2 c0_2 l0_2 _ ?s1 HC2.out HG2.out).mono ?_); (case s1 => exact Kd.C_alloc (Kd.C_alloc (Kd.C_alloc HR2.out _) _) _); rintro e w1 ⟨g2, c2, rfl, ho, hb⟩;
       have B0 := Aside0.mk (blk_keep (heap3_0 w _ _ _) hb); have B1 := Aside0.mk (blk_keep (heap3_1 w _ _ _) hb); have B2 := Aside0.mk (blk_keep (heap3_2 w _ _ _) hb); have HB := Aside0.mk ((below_alloc (below_alloc (below_alloc (Below.refl w.heap.size w) _) _) _).trans (hb.mono (by first | (simp; done) | (simp; omega))));
       have G2 := Aside0.mk (Kd.R_base ho g2 (by simp [Value.ownBlock])); have HO := Aside0.mk ho; clear hb ho;
       have k1 : w1.cell? ⟨w.heap.size + 1 + 1, 2, none⟩ = some (.slice none 0 0) := (blk_cell B2.out 2).trans rfl; have k2 : w1.frozen? ⟨w.heap.size + 1 + 1, 2, none⟩ = false := blk_frozen B2.out 2; have k3 : w1.cell? ⟨w.heap.size, 3, none⟩ = some (.slice A0_3 l0_3.length c0_3) := (blk_cell B0.out 3).trans rfl)
    | (go_at_call 36; (with_reducible refine (laws_toIntS_full A0_3 c0_3 l0_3 _ ?s2 HC3.out HG3.out).mono ?_); (case s2 => exact Kd.C_below HR3.out (below_set (g := w.heap.size + 1 + 1) HB.out (by omega))); rintro e w2 ⟨g3, c3, rfl, ho, hb⟩;
       have D0 := Aside0.mk (blk_keep (blk_far (p := ⟨w.heap.size + 1 + 1, 2, none⟩) B0.out (by simp; omega) _) hb); have D1 := Aside0.mk (blk_keep (blk_far (p := ⟨w.heap.size + 1 + 1, 2, none⟩) B1.out (by simp) _) hb); have D2 := Aside0.mk (blk_keep (blk_set B2.out 2 _) hb); have HB2 := Aside0.mk (below_step (below_set (g := w.heap.size + 1 + 1) (j := 2) (v := .slice (some ⟨g2, 0, none⟩) l0_2.length c2) HB.out (by omega)) hb);
       have P2 := Aside0.mk (Kd.R_below (Kd.R_far (p := ⟨w.heap.size + 1 + 1, 2, none⟩) (Kd.R_types (Kd.R_types HO.out B1.out (by decide)) B2.out (by decide)) (fun _ hk => hk.2) (.slice (some ⟨g2, 0, none⟩) l0_2.length c2)) hb);
       have P3 := Aside0.mk (Kd.R_types (Kd.R_types ho D1.out (by decide)) D2.out (by decide)); have HNE : Aside0 (g2 ≠ g3) := ⟨fun e => by have a1 := Kd.R_lt HO.out g2 (by simp [Value.ownBlock]); have a2 := Kd.R_base ho g3 (by simp [Value.ownBlock]); simp at a2; omega⟩; have HS1 := Aside0.mk HB.out.size; clear hb ho HO HB k1 k2 k3;
       have e0 : w2.cell? ⟨w.heap.size + 1 + 1, 0, none⟩ = some (.int .i64 a0_0) := (blk_cell D2.out 0).trans rfl; have e1 : w2.cell? ⟨w.heap.size + 1 + 1, 1, none⟩ = some (.int .i64 a0_1) := (blk_cell D2.out 1).trans rfl; have e2 : w2.cell? ⟨w.heap.size + 1 + 1, 2, none⟩ = some (.slice (some ⟨g2, 0, none⟩) l0_2.length c2) := (blk_cell D2.out 2).trans rfl; have e3 : w2.cell? ⟨w.heap.size + 1 + 1, 3, none⟩ = some (.slice none 0 0) := (blk_cell D2.out 3).trans rfl; have e4 : w2.frozen? ⟨w.heap.size + 1 + 1, 3, none⟩ = false := blk_frozen D2.out 3;
       have f0 : w2.cell? ⟨w.heap.size + 1, 0, none⟩ = some (.int .i64 0) := (blk_cell D1.out 0).trans rfl; have f1 : w2.cell? ⟨w.heap.size + 1, 1, none⟩ = some (.int .i64 0) := (blk_cell D1.out 1).trans rfl; have f2 : w2.cell? ⟨w.heap.size + 1, 2, none⟩ = some (.slice none 0 0) := (blk_cell D1.out 2).trans rfl; have f3 : w2.cell? ⟨w.heap.size + 1, 3, none⟩ = some (.slice none 0 0) := (blk_cell D1.out 3).trans rfl;
       have h0 : w2.frozen? ⟨w.heap.size + 1, 0, none⟩ = false := blk_frozen D1.out 0; have h1 : w2.frozen? ⟨w.heap.size + 1, 1, none⟩ = false := blk_frozen D1.out 1; have h2 : w2.frozen? ⟨w.heap.size + 1, 2, none⟩ = false := blk_frozen D1.out 2; have h3 : w2.frozen? ⟨w.heap.size + 1, 3, none⟩ = false := blk_frozen D1.out 3))
  refine bodyPost_ret (v := .agg #[.int .i64 a0_0, .int .i64 a0_1, .slice (some ⟨g2, 0, none⟩) l0_2.length c2, .slice (some ⟨g3, 0, none⟩) l0_3.length c3]) (results_cell_row rfl _ _ (w.heap.size + 1) 28 #[.int .i64 a0_0, .int .i64 a0_1, .slice (some ⟨g2, 0, none⟩) l0_2.length c2, .slice (some ⟨g3, 0, none⟩) l0_3.length c3] (0, 0) _ rfl (by refine blk_put (cs := #[.int .i64 a0_0, .int .i64 a0_1, .slice (some ⟨g2, 0, none⟩) l0_2.length c2, .slice none 0 0]) ?_ 3 _ rfl; refine blk_put (cs := #[.int .i64 a0_0, .int .i64 a0_1, .slice none 0 0, .slice none 0 0]) ?_ 2 _ rfl; refine blk_put (cs := #[.int .i64 a0_0, .int .i64 0, .slice none 0 0, .slice none 0 0]) ?_ 1 _ rfl; refine blk_put (cs := #[.int .i64 0, .int .i64 0, .slice none 0 0, .slice none 0 0]) ?_ 0 _ rfl; refine blk_far ?_ (by simp) _; exact D1.out) Tryd.underlying28 rfl (by kernel_rfl)) rfl ⟨g2, c2, g3, c3, rfl, ?_, ?_, HNE.out, ?_⟩
  · exact Kd.R_mono (Kd.R_lower (Kd.R_far (p := ⟨w.heap.size + 1, 3, none⟩) (Kd.R_far (p := ⟨w.heap.size + 1, 2, none⟩) (Kd.R_far (p := ⟨w.heap.size + 1, 1, none⟩) (Kd.R_far (p := ⟨w.heap.size + 1, 0, none⟩) (Kd.R_far (p := ⟨w.heap.size + 1 + 1, 3, none⟩) P2.out (fun _ hk => hk.2) _) (fun _ hk => hk.1.2) _) (fun _ hk => hk.1.2) _) (fun _ hk => hk.1.2) _) (fun _ hk => hk.1.2) _) (by simp; omega)) (fun _ _ => trivial)
  · exact Kd.R_mono (Kd.R_lower (Kd.R_far (p := ⟨w.heap.size + 1, 3, none⟩) (Kd.R_far (p := ⟨w.heap.size + 1, 2, none⟩) (Kd.R_far (p := ⟨w.heap.size + 1, 1, none⟩) (Kd.R_far (p := ⟨w.heap.size + 1, 0, none⟩) (Kd.R_far (p := ⟨w.heap.size + 1 + 1, 3, none⟩) P3.out (fun _ hk => hk.2) _) (fun _ hk => hk.1.2) _) (fun _ hk => hk.1.2) _) (fun _ hk => hk.1.2) _) (fun _ hk => hk.1.2) _) (by simp; exact HS1.out)) (fun _ _ => trivial)
  · exact below_set (g := w.heap.size + 1) (below_set (g := w.heap.size + 1) (below_set (g := w.heap.size + 1) (below_set (g := w.heap.size + 1) (below_set (g := w.heap.size + 1 + 1) HB2.out (by omega)) (by omega)) (by omega)) (by omega)) (by omega)

end Go.Proofs.YtgakmcoeccmkbaaDoor.P


namespace Go.Proofs.YtgakmcoeccmkbaaDoor.P
open Go.RowKit Go.Proofs.YtgakmcoeccmkbaaDoorW.PrintWords Go.Proofs.YtgakmcoeccmkbaaDoorW.PrintLast Go.Proofs.YtgakmcoeccmkbaaDoorW.PrintMore
attribute [local go_sem] max2_int min2_int max_two min_two max_three min_three max_four min_four   -- for this text's walks alone
set_option linter.unusedVariables false
set_option linter.unusedSimpArgs false

theorem laws_eqIntS_l0_refl (L : List Int) (hL : L.length ≤ 4000000) : ∀ (d : Nat) (k : Nat) (i : Nat), L.length - i = d → i ≤ L.length → d < k → laws_eqIntS.l0 k L L (i : Int) = some true := by
  intro d
  induction d with
  | zero =>
    intro k i h1 h2 h3
    obtain ⟨k, rfl⟩ : ∃ m, k = m + 1 := ⟨k - 1, by omega⟩
    simp only [laws_eqIntS.l0]
    rw [if_neg (by omega)]
  | succ d ih =>
    intro k i h1 h2 h3
    obtain ⟨k, rfl⟩ : ∃ m, k = m + 1 := ⟨k - 1, by omega⟩
    simp only [laws_eqIntS.l0]
    rw [if_pos (by omega), if_pos (by omega), if_pos (by omega), if_pos True.intro, show wrap64 ((i : Int) + 1) = ((i + 1 : Nat) : Int) by unfold wrap64; omega]
    exact ih k (i + 1) (by omega) (by omega) (by omega)
theorem laws_eqIntS_refl (L : List Int) (hL : L.length ≤ 4000000) (k : Nat) (hk : L.length < k) : laws_eqIntS.f k L L = some true := by
  unfold laws_eqIntS.f
  rw [if_pos rfl]
  exact laws_eqIntS_l0_refl L hL L.length k 0 (by omega) (by omega) hk
set_option maxRecDepth 100000 in
set_option maxHeartbeats 8000000 in
theorem laws_intactIntS_full (g0 c0 g1 c1 : Nat) (l : List Int) (w : World) (hr0 : Kd.C (Kd.int .i64) w (some ⟨g0, 0, none⟩) (fullOf l).length (fullOf l)) (hc0 : (fullOf l).length ≤ c0) (hr1 : Kd.C (Kd.int .i64) w (some ⟨g1, 0, none⟩) (fullOf l).length (fullOf l)) (hc1 : (fullOf l).length ≤ c1) (hbig : l.length ≤ 1000000) :
    Calls Tryd.prog 38 #[.slice (some ⟨g0, 0, none⟩) l.length c0, .slice (some ⟨g1, 0, none⟩) l.length c1] w fun e w' => e = .returned (.bool true) ∧ Drawn0 w w' := by
  have HF := Aside0.mk (roomN_f l.length)
  have hm := roomN_le l.length
  have hL := fullOf_length l
  have hq : laws_eqIntS.f (l.length + roomN l.length + 1) (fullOf l) (fullOf l) = some true := laws_eqIntS_refl _ (by omega) _ (by omega)
  have HQ := Aside0.mk hq
  clear hq
  generalize fullOf l = L at hr0 hr1 hc0 hc1 HQ hL
  generalize hn : l.length = n at hbig HF hm HQ hL ⊢
  clear hn
  generalize roomN n = m at HF hm HQ hL
  obtain ⟨N, hN⟩ : ∃ N, N = n + m := ⟨_, rfl⟩
  have hLN : L.length = N := by omega
  have HR0 : Aside0 (∀ W, Drawn0 w W → Kd.C (Kd.int .i64) W (some ⟨g0, 0, none⟩) L.length L) := ⟨fun W h => by obtain ⟨⟨q, rfl⟩⟩ := h; exact Kd.C_drewN hr0 q⟩
  have HR1 : Aside0 (∀ W, Drawn0 w W → Kd.C (Kd.int .i64) W (some ⟨g1, 0, none⟩) L.length L) := ⟨fun W h => by obtain ⟨⟨q, rfl⟩⟩ := h; exact Kd.C_drewN hr1 q⟩
  have HCL := Aside0.mk hLN
  rw [hLN] at hc0 hc1
  have hsum : IntKind.i64.wrap ((n : Int) + (m : Int)) = (N : Int) := by rw [hN]; exact (Go.IntWalk.i64_in _ (by omega)).trans (by simp)
  have p0 : (0 : Int) ≤ (N : Int) := by omega
  have p1 : (N : Int) ≤ (c0 : Int) := by omega
  have p2 : (N : Int) ≤ (c1 : Int) := by omega
  have HE : Aside0 (∀ W : World, Drawn0 w W → Calls Tryd.prog 28 #[.slice (some ⟨g0, 0, none⟩) N c0, .slice (some ⟨g1, 0, none⟩) N c1] W fun e w' => e = .returned (.bool true) ∧ Drawn0 W w') := ⟨fun W hW => by
    have h := laws_eqIntS.calls (n + m + 1) (some ⟨g0, 0, none⟩) c0 L (some ⟨g1, 0, none⟩) c1 L true W (HR0.out W hW) (by omega) (HR1.out W hW) (by omega) HQ.out
    rw [HCL.out] at h
    exact h⟩
  clear hr0 hr1 hL hLN hN hm HQ HCL HR0 HR1 hbig
  go_enter Tryd.func38, Tryd.ntmps38
  go_wp2_with (first
    | (go_at_call 46; refine (laws_roomBehind.calls (n : Int) (m : Int) _ HF.out).mono ?_; rintro e w' ⟨rfl, ⟨nd, rfl⟩⟩))
  go_quiet ((go_at_call 28; refine (HE.out _ ?d1).mono ?_; (case d1 => repeat (first | exact Drawn0.refl _ | apply Drawn0.step)); rintro e w' ⟨rfl, ⟨nd2, rfl⟩⟩; first | exact ⟨rfl, _, World.drewN_drewN _ _ _⟩ | exact ⟨rfl, _, Eq.trans (World.drewN_drewN _ _ _) (congrArg (World.drewN _) (Nat.add_assoc _ _ _))⟩))
  go_wp2
  go_ret
  exact ⟨rfl, by repeat (first | exact Drawn0.refl _ | apply Drawn0.step)⟩

end Go.Proofs.YtgakmcoeccmkbaaDoor.P


namespace Go.Proofs.YtgakmcoeccmkbaaDoor.P
open Go.RowKit Go.Proofs.YtgakmcoeccmkbaaDoorW.PrintWords Go.Proofs.YtgakmcoeccmkbaaDoorW.PrintLast Go.Proofs.YtgakmcoeccmkbaaDoorW.PrintMore
attribute [local go_sem] max2_int min2_int max_two min_two max_three min_three max_four min_four   -- for this text's walks alone
set_option linter.unusedVariables false
set_option linter.unusedSimpArgs false

set_option maxRecDepth 100000 in
set_option maxHeartbeats 8000000 in
theorem laws_intactFigure_full (a0 a1 : Int) (g2 c2 g3 c3 h2 d2 h3 d3 : Nat) (l m : List Int) (w : World) (r2 : Kd.C (Kd.int .i64) w (some ⟨g2, 0, none⟩) (fullOf l).length (fullOf l)) (b2 : (fullOf l).length ≤ c2) (r3 : Kd.C (Kd.int .i64) w (some ⟨g3, 0, none⟩) (fullOf m).length (fullOf m)) (b3 : (fullOf m).length ≤ c3)
    (s2 : Kd.C (Kd.int .i64) w (some ⟨h2, 0, none⟩) (fullOf l).length (fullOf l)) (e2 : (fullOf l).length ≤ d2) (s3 : Kd.C (Kd.int .i64) w (some ⟨h3, 0, none⟩) (fullOf m).length (fullOf m)) (e3 : (fullOf m).length ≤ d3) (hl : l.length ≤ 1000000) (hm : m.length ≤ 1000000) :
    Calls Tryd.prog 15 #[.agg #[.int .i64 a0, .int .i64 a1, .slice (some ⟨g2, 0, none⟩) l.length c2, .slice (some ⟨g3, 0, none⟩) m.length c3], .agg #[.int .i64 a0, .int .i64 a1, .slice (some ⟨h2, 0, none⟩) l.length d2, .slice (some ⟨h3, 0, none⟩) m.length d3]] w fun e w' => e = .returned (.bool true) ∧ Below w.heap.size w w' := by
  have hu28 := Tryd.underlying28
  have H2 : Aside0 (∀ W, Below w.heap.size w W → Calls Tryd.prog 38 #[.slice (some ⟨g2, 0, none⟩) l.length c2, .slice (some ⟨h2, 0, none⟩) l.length d2] W fun e w' => e = .returned (.bool true) ∧ Drawn0 W w') := ⟨fun W hW => laws_intactIntS_full g2 c2 h2 d2 l W (Kd.C_below r2 hW) b2 (Kd.C_below s2 hW) e2 hl⟩
  have H3 : Aside0 (∀ W, Below w.heap.size w W → Calls Tryd.prog 38 #[.slice (some ⟨g3, 0, none⟩) m.length c3, .slice (some ⟨h3, 0, none⟩) m.length d3] W fun e w' => e = .returned (.bool true) ∧ Drawn0 W w') := ⟨fun W hW => laws_intactIntS_full g3 c3 h3 d3 m W (Kd.C_below r3 hW) b3 (Kd.C_below s3 hW) e3 hm⟩
  clear r2 r3 s2 s3 b2 b3 e2 e3 hl hm
  generalize l.length = n2 at H2 ⊢
  generalize m.length = n3 at H3 ⊢
  have HB : Aside0 (Below w.heap.size w w) := ⟨Below.refl _ _⟩
  go_enter Tryd.func15, Tryd.ntmps15
  go_wp2_with (first
    | (go_at_call 38; (with_reducible refine (H2.out _ ?s1).mono ?_); (case s1 => repeat (first | exact HB.out | apply below_alloc | apply pw_below_drewN | apply below_drew1)); rintro e w' ⟨rfl, ⟨nd, rfl⟩⟩)
    | (go_at_call 38; (with_reducible refine (H3.out _ ?s1).mono ?_); (case s1 => repeat (first | exact HB.out | apply below_alloc | apply pw_below_drewN | apply below_drew1)); rintro e w' ⟨rfl, ⟨nd, rfl⟩⟩))
  go_ret
  exact ⟨rfl, by repeat (first | exact HB.out | apply below_alloc | apply pw_below_drewN | apply below_drew1)⟩

end Go.Proofs.YtgakmcoeccmkbaaDoor.P


namespace Go.Proofs.YtgakmcoeccmkbaaDoor.P
open Go.RowKit Go.Proofs.YtgakmcoeccmkbaaDoorW.PrintWords Go.Proofs.YtgakmcoeccmkbaaDoorW.PrintLast Go.Proofs.YtgakmcoeccmkbaaDoorW.PrintMore
attribute [local go_sem] max2_int min2_int max_two min_two max_three min_three max_four min_four   -- for this text's walks alone
set_option linter.unusedVariables false
set_option linter.unusedSimpArgs false

set_option maxRecDepth 100000 in
set_option maxHeartbeats 8000000 in
theorem law_SquaresByMoves_no (a0_0 : Int) (a0_1 : Int) (A0_2 : Option Addr) (c0_2 : Nat) (l0_2 : List Int) (A0_3 : Option Addr) (c0_3 : Nat) (l0_3 : List Int) (x1 : Int) (w : World) (hr0_2 : Kd.C (Kd.int .i64) w A0_2 l0_2.length l0_2) (hc0_2 : l0_2.length ≤ c0_2) (hr0_3 : Kd.C (Kd.int .i64) w A0_3 l0_3.length l0_3) (hc0_3 : l0_3.length ≤ c0_3) (hl : l0_2.length ≤ 140737488355328) (hm : l0_3.length ≤ 140737488355328) (hbig : ¬ l0_2.length + l0_3.length ≤ 1000000) :
    Calls Tryd.prog 9 #[.agg #[.int .i64 a0_0, .int .i64 a0_1, .slice A0_2 l0_2.length c0_2, .slice A0_3 l0_3.length c0_3], .int .i64 x1] w fun e w' => e = .returned (.bool true) ∧ Below w.heap.size w w' := by
  have hsz := Aside0.mk (szFigure_no a0_0 a0_1 l0_2 l0_3 hl hm hbig)
  have HR2 := Aside0.mk hr0_2
  have HR3 := Aside0.mk hr0_3
  have HC2 := Aside0.mk hc0_2
  have HC3 := Aside0.mk hc0_3
  clear hr0_2 hr0_3 hc0_2 hc0_3 hl hm hbig
  go_enter Tryd.func9, Tryd.ntmps9
  go_wp2_with (go_at_call 11; refine (laws_szFigure.calls _ _ _ _ l0_2 _ _ l0_3 _ (-1) _ ?xA HC2.out ?xB HC3.out hsz.out).mono ?_; (case xA => first | exact Kd.C_alloc HR2.out _ | exact Kd.C_alloc (Kd.C_alloc HR2.out _) _ | exact Kd.C_alloc (Kd.C_alloc (Kd.C_alloc HR2.out _) _) _); (case xB => first | exact Kd.C_alloc HR3.out _ | exact Kd.C_alloc (Kd.C_alloc HR3.out _) _ | exact Kd.C_alloc (Kd.C_alloc (Kd.C_alloc HR3.out _) _) _); rintro e w1 ⟨rfl, hb⟩)
  go_ret
  exact ⟨rfl, below_step (by repeat (first | exact Below.refl _ _ | apply below_alloc)) hb⟩

set_option maxRecDepth 100000 in
set_option maxHeartbeats 16000000 in
theorem law_SquaresByMoves_yes (a0_0 : Int) (a0_1 : Int) (A0_2 : Option Addr) (c0_2 : Nat) (l0_2 : List Int) (A0_3 : Option Addr) (c0_3 : Nat) (l0_3 : List Int) (x1 : Int) (K : Nat) (R1 : List Int) (R2 : Bool) (G : World → Prop) (hG : ∀ w w', G w → Below w.heap.size w w' → G w') (w : World) (hr0_2 : Kd.C (Kd.int .i64) w A0_2 l0_2.length l0_2) (hc0_2 : l0_2.length ≤ c0_2) (hr0_3 : Kd.C (Kd.int .i64) w A0_3 l0_3.length l0_3) (hc0_3 : l0_3.length ≤ c0_3) (hGw : G w) (hbig : l0_2.length + l0_3.length ≤ 1000000) (hRb : R1.length ≤ 1000000) (hK : 4000000 < K)
    (hspec : AnswersI G 26 a0_0 a0_1 l0_2 l0_3 (fun v => #[v, .int .i64 x1]) R1 R2) (himpl : AnswersI G 27 a0_0 a0_1 l0_2 l0_3 (fun v => #[v, .int .i64 x1]) R1 R2) :
    Calls Tryd.prog 9 #[.agg #[.int .i64 a0_0, .int .i64 a0_1, .slice A0_2 l0_2.length c0_2, .slice A0_3 l0_3.length c0_3], .int .i64 x1] w fun e w' => e = .returned (.bool true) ∧ Below w.heap.size w w' := by
  have hsz := Aside0.mk (szFigure_ok a0_0 a0_1 l0_2 l0_3 hbig)
  have hT0 := Aside0.mk (toFigure_f a0_0 a0_1 l0_2 l0_3 false (by omega) (by omega) K (by omega))
  have hT1 := Aside0.mk (toFigure_f a0_0 a0_1 l0_2 l0_3 true (by omega) (by omega) K (by omega))
  have hM := Aside0.mk (markFigure_f a0_0 a0_1 l0_2 l0_3 hbig K (by omega))
  have hE := Aside0.mk (eqIntS_refl R1 (by omega) K (by omega))
  have hMC := Aside0.mk (markIntS_f R1 101 (by omega) (by omega) K (by omega))
  have hHC := Aside0.mk (heldIntS_f R1.length 101 (by omega) (by omega) K (by omega))
  have HS : Aside0 (∀ (A2 : Option Addr) (c2 : Nat) (A3 : Option Addr) (c3 : Nat) (W : World), Kd.C (Kd.int .i64) W A2 l0_2.length l0_2 → l0_2.length ≤ c2 → Kd.C (Kd.int .i64) W A3 l0_3.length l0_3 → l0_3.length ≤ c3 → G W → Calls Tryd.prog 26 #[.agg #[.int .i64 a0_0, .int .i64 a0_1, .slice A2 l0_2.length c2, .slice A3 l0_3.length c3], .int .i64 x1] W fun e w' => ∃ v, e = .returned (.tuple #[v, .bool R2]) ∧ Kd.R (Kd.int .i64) 3 w' W.heap.size (fun _ => True) v R1 ∧ Below W.heap.size W w') := ⟨hspec⟩
  have HI : Aside0 (∀ (A2 : Option Addr) (c2 : Nat) (A3 : Option Addr) (c3 : Nat) (W : World), Kd.C (Kd.int .i64) W A2 l0_2.length l0_2 → l0_2.length ≤ c2 → Kd.C (Kd.int .i64) W A3 l0_3.length l0_3 → l0_3.length ≤ c3 → G W → Calls Tryd.prog 27 #[.agg #[.int .i64 a0_0, .int .i64 a0_1, .slice A2 l0_2.length c2, .slice A3 l0_3.length c3], .int .i64 x1] W fun e w' => ∃ v, e = .returned (.tuple #[v, .bool R2]) ∧ Kd.R (Kd.int .i64) 3 w' W.heap.size (fun _ => True) v R1 ∧ Below W.heap.size W w') := ⟨himpl⟩
  have HGT : Aside0 (∀ W, Below w.heap.size w W → G W) := ⟨fun W h => hG w W hGw h⟩
  have HL2 : Aside0 (l0_2.length ≤ 1000000) := ⟨by omega⟩
  have HL3 : Aside0 (l0_3.length ≤ 1000000) := ⟨by omega⟩
  have hl0 : (0 : Int) ≤ 1000000 - (l0_2.length : Int) - (l0_3.length : Int) := by omega
  have hl1 : 1000000 - (l0_2.length : Int) - (l0_3.length : Int) ≤ 1000000 := by omega
  have hk0 : (0 : Int) ≤ 101 + (l0_2.length : Int) + (l0_3.length : Int) := by omega
  have hm0 : (0 : Int) ≤ 101 + (R1.length : Int) := by omega
  generalize hmm : 101 + (R1.length : Int) = mm at hMC hHC hm0
  generalize hmk : 101 + (l0_2.length : Int) + (l0_3.length : Int) = mk at hM hk0
  generalize hsl : 1000000 - (l0_2.length : Int) - (l0_3.length : Int) = sl at hsz hl0 hl1
  clear hmm hmk hsl
  have HR2 := Aside0.mk hr0_2
  have HR3 := Aside0.mk hr0_3
  have HC2 := Aside0.mk hc0_2
  have HC3 := Aside0.mk hc0_3
  clear hr0_2 hr0_3 hc0_2 hc0_3 hbig hRb hK hspec himpl hG hGw
  have tok0 : True := trivial
  go_enter Tryd.func9, Tryd.ntmps9

  go_wp2_with (first
    | (go_at_call 11; have _t := tok0; (with_reducible refine (laws_szFigure.calls _ _ _ _ l0_2 _ _ l0_3 _ sl _ ?sA HC2.out ?sB HC3.out hsz.out).mono ?_); (case sA => first | exact Kd.C_alloc HR2.out _ | exact Kd.C_alloc (Kd.C_alloc HR2.out _) _ | exact Kd.C_alloc (Kd.C_alloc (Kd.C_alloc HR2.out _) _) _); (case sB => first | exact Kd.C_alloc HR3.out _ | exact Kd.C_alloc (Kd.C_alloc HR3.out _) _ | exact Kd.C_alloc (Kd.C_alloc (Kd.C_alloc HR3.out _) _) _); rintro e w1 ⟨rfl, hb⟩; have Q0 := Aside0.mk (blk_keep (o := .cells #[.int .i64 a0_0, .int .i64 a0_1, .slice A0_2 l0_2.length c0_2, .slice A0_3 l0_3.length c0_3] 24 (0, 0)) (g := w.heap.size) (by first | exact heap_alloc_new w _ | exact blk_alloc (heap_alloc_new w _) _ | exact blk_alloc (blk_alloc (heap_alloc_new w _) _) _) hb);
       have HB : Aside0 (Below w.heap.size w w1) := ⟨below_step (by repeat (first | exact Below.refl _ _ | apply below_alloc)) hb⟩;
       have HW : Aside0 (w.heap.size < w1.heap.size) := ⟨by have := hb.size; simp at this; omega⟩;
       clear hb; have q0 : w1.cell? ⟨w.heap.size, 0, none⟩ = some (.int .i64 a0_0) := (blk_cell Q0.out 0).trans rfl; have q1 : w1.cell? ⟨w.heap.size, 1, none⟩ = some (.int .i64 a0_1) := (blk_cell Q0.out 1).trans rfl; have q2 : w1.cell? ⟨w.heap.size, 2, none⟩ = some (.slice A0_2 l0_2.length c0_2) := (blk_cell Q0.out 2).trans rfl; have q3 : w1.cell? ⟨w.heap.size, 3, none⟩ = some (.slice A0_3 l0_3.length c0_3) := (blk_cell Q0.out 3).trans rfl; clear _t tok0; have tok1 : True := trivial)
    | (go_at_call 13; have _t := tok1; (with_reducible refine (laws_toFigure.calls K a0_0 a0_1 A0_2 c0_2 l0_2 A0_3 c0_3 l0_3 false a0_0 a0_1 l0_2 l0_3 _ (Kd.C_below HR2.out HB.out) HC2.out (Kd.C_below HR3.out HB.out) HC3.out hT0.out).mono ?_); rintro e w2 ⟨u2, u3, rfl, hu2, hu3, hb⟩; have n0_ := Aside0.mk (below_step HB.out hb);
       have n1_ := Aside0.mk (blk_keep Q0.out hb);
       clear q0 q1 q2 q3 HB Q0;
       have HB := n0_;
       have Q0 := n1_;
       clear n0_ n1_;
       have q0 : w2.cell? ⟨w.heap.size, 0, none⟩ = some (.int .i64 a0_0) := (blk_cell Q0.out 0).trans rfl;
       have q1 : w2.cell? ⟨w.heap.size, 1, none⟩ = some (.int .i64 a0_1) := (blk_cell Q0.out 1).trans rfl;
       have q2 : w2.cell? ⟨w.heap.size, 2, none⟩ = some (.slice A0_2 l0_2.length c0_2) := (blk_cell Q0.out 2).trans rfl;
       have q3 : w2.cell? ⟨w.heap.size, 3, none⟩ = some (.slice A0_3 l0_3.length c0_3) := (blk_cell Q0.out 3).trans rfl;
       obtain ⟨B2, d2, rfl⟩ := Kd.R_slice hu2;
       obtain ⟨B3, d3, rfl⟩ := Kd.R_slice hu3;
       have U2 := Aside0.mk (Kd.R_reads' hu2).2;
       have U3 := Aside0.mk (Kd.R_reads' hu3).2;
       clear hb hu2 hu3; clear _t tok1; have tok2 : True := trivial)
    | (go_at_call 26; have _t := tok2; (with_reducible refine (HS.out B2 d2 B3 d3 _ U2.out.2 U2.out.1 U3.out.2 U3.out.1 (HGT.out _ HB.out)).mono ?_); rintro e w3 ⟨v4, rfl, ho, hb⟩; have HB2 := Aside0.mk (HB.out.size);
       have HW2 : Aside0 (w.heap.size < w3.heap.size) := ⟨by have := hb.size; have := HB.out.size; have := (Array.getElem?_eq_some_iff.1 Q0.out).1; omega⟩;
       have n0_ := Aside0.mk (below_step HB.out hb);
       have n1_ := Aside0.mk (blk_keep Q0.out hb);
       clear q0 q1 q2 q3 HB Q0;
       have HB := n0_;
       have Q0 := n1_;
       clear n0_ n1_;
       have q0 : w3.cell? ⟨w.heap.size, 0, none⟩ = some (.int .i64 a0_0) := (blk_cell Q0.out 0).trans rfl;
       have q1 : w3.cell? ⟨w.heap.size, 1, none⟩ = some (.int .i64 a0_1) := (blk_cell Q0.out 1).trans rfl;
       have q2 : w3.cell? ⟨w.heap.size, 2, none⟩ = some (.slice A0_2 l0_2.length c0_2) := (blk_cell Q0.out 2).trans rfl;
       have q3 : w3.cell? ⟨w.heap.size, 3, none⟩ = some (.slice A0_3 l0_3.length c0_3) := (blk_cell Q0.out 3).trans rfl;
       have V4 := Aside0.mk (Kd.R_lower (Kd.R_mono (Kd.R_bound ho) (fun k hk => hk.2.2.1) : Kd.R (Kd.int .i64) 3 w3 w2.heap.size (fun k => k < w3.heap.size) v4 R1) HB2.out);
       obtain ⟨A4, e4, rfl⟩ := Kd.R_slice ho;
       clear hb ho U2 U3 HB2; clear _t tok2; have tok3 : True := trivial)
    | (go_at_call 13; have _t := tok3; (with_reducible refine (laws_toFigure_full a0_0 a0_1 A0_2 c0_2 l0_2 A0_3 c0_3 l0_3 _ (Kd.C_below HR2.out HB.out) HC2.out (Kd.C_below HR3.out HB.out) HC3.out HL2.out HL3.out).mono ?_); rintro e w4 ⟨g2, cc2, g3, cc3, rfl, ho2, ho3, hne, hb⟩; have HG : Aside0 ((w3.heap.size ≤ g2 ∧ g2 < w4.heap.size) ∧ (w3.heap.size ≤ g3 ∧ g3 < w4.heap.size) ∧ g2 ≠ g3) := ⟨⟨Kd.R_base ho2 g2 (by simp [Value.ownBlock]), Kd.R_lt ho2 g2 (by simp [Value.ownBlock])⟩, ⟨Kd.R_base ho3 g3 (by simp [Value.ownBlock]), Kd.R_lt ho3 g3 (by simp [Value.ownBlock])⟩, hne⟩;
       have HS3 := Aside0.mk HB.out.size;
       have n0_ := Aside0.mk (below_step HB.out hb);
       have n1_ := Aside0.mk (blk_keep Q0.out hb);
       have n2_ := Aside0.mk (Kd.R_below V4.out hb);
       clear q0 q1 q2 q3 HB Q0 V4;
       have HB := n0_;
       have Q0 := n1_;
       have V4 := n2_;
       clear n0_ n1_ n2_;
       have q0 : w4.cell? ⟨w.heap.size, 0, none⟩ = some (.int .i64 a0_0) := (blk_cell Q0.out 0).trans rfl;
       have q1 : w4.cell? ⟨w.heap.size, 1, none⟩ = some (.int .i64 a0_1) := (blk_cell Q0.out 1).trans rfl;
       have q2 : w4.cell? ⟨w.heap.size, 2, none⟩ = some (.slice A0_2 l0_2.length c0_2) := (blk_cell Q0.out 2).trans rfl;
       have q3 : w4.cell? ⟨w.heap.size, 3, none⟩ = some (.slice A0_3 l0_3.length c0_3) := (blk_cell Q0.out 3).trans rfl;
       have G2 : Aside0 (Kd.R (Kd.int .i64) 3 w4 w.heap.size (fun k => k = g2) (.slice (some ⟨g2, 0, none⟩) (fullOf l0_2).length cc2) (fullOf l0_2)) := ⟨Kd.R_lower (Kd.R_mono (Kd.R_tight rfl ho2) (fun k hk => by simpa [Value.ownBlock] using hk)) HS3.out⟩;
       have G3 : Aside0 (Kd.R (Kd.int .i64) 3 w4 w.heap.size (fun k => k = g3) (.slice (some ⟨g3, 0, none⟩) (fullOf l0_3).length cc3) (fullOf l0_3)) := ⟨Kd.R_lower (Kd.R_mono (Kd.R_tight rfl ho3) (fun k hk => by simpa [Value.ownBlock] using hk)) HS3.out⟩;
       have T2 : Aside0 (l0_2.length ≤ cc2 ∧ Kd.C (Kd.int .i64) w4 (some ⟨g2, 0, none⟩) l0_2.length l0_2) := ⟨by have h := (Kd.R_reads' (Kd.R_take G2.out (m := l0_2.length) (by rw [fullOf_length]; omega))).2; rw [fullOf_take] at h; exact h⟩;
       have T3 : Aside0 (l0_3.length ≤ cc3 ∧ Kd.C (Kd.int .i64) w4 (some ⟨g3, 0, none⟩) l0_3.length l0_3) := ⟨by have h := (Kd.R_reads' (Kd.R_take G3.out (m := l0_3.length) (by rw [fullOf_length]; omega))).2; rw [fullOf_take] at h; exact h⟩;
       have hlt : w.heap.size < w4.heap.size := by have := HW2.out; have := hb.size; omega;
       clear hb ho2 ho3 hne HS3; clear _t tok3; have tok4 : True := trivial)
    | (go_at_call 27; have _t := tok4; (with_reducible refine (HI.out _ _ _ _ _ (Kd.C_alloc T2.out.2 _) T2.out.1 (Kd.C_alloc T3.out.2 _) T3.out.1 (HGT.out _ (below_alloc HB.out _))).mono ?_); rintro e w5 ⟨v7, rfl, ho, hb⟩; have HS4 : Aside0 (w.heap.size ≤ w4.heap.size + 1) := ⟨by have := HB.out.size; omega⟩;
       have n0_ := Aside0.mk (below_step (below_alloc HB.out _) hb);
       have n1_ := Aside0.mk (blk_keep (blk_alloc Q0.out _) hb);
       have n2_ := Aside0.mk (Kd.R_below (Kd.R_alloc V4.out _) hb);
       have n3_ := Aside0.mk (Kd.R_below (Kd.R_alloc G2.out _) hb);
       have n4_ := Aside0.mk (Kd.R_below (Kd.R_alloc G3.out _) hb);
       clear q0 q1 q2 q3 HB Q0 V4 G2 G3;
       have HB := n0_;
       have Q0 := n1_;
       have V4 := n2_;
       have G2 := n3_;
       have G3 := n4_;
       clear n0_ n1_ n2_ n3_ n4_;
       have X0n : Aside0 (w5.heap[w4.heap.size]? = some (.cells #[.int .i64 a0_0, .int .i64 a0_1, .slice (some ⟨g2, 0, none⟩) l0_2.length cc2, .slice (some ⟨g3, 0, none⟩) l0_3.length cc3] 28 (0, 0))) := ⟨blk_keep (heap_alloc_new w4 _) hb⟩;
       have X0 := X0n;
       clear X0n;
       have q0 : w5.cell? ⟨w.heap.size, 0, none⟩ = some (.int .i64 a0_0) := (blk_cell Q0.out 0).trans rfl;
       have q1 : w5.cell? ⟨w.heap.size, 1, none⟩ = some (.int .i64 a0_1) := (blk_cell Q0.out 1).trans rfl;
       have q2 : w5.cell? ⟨w.heap.size, 2, none⟩ = some (.slice A0_2 l0_2.length c0_2) := (blk_cell Q0.out 2).trans rfl;
       have q3 : w5.cell? ⟨w.heap.size, 3, none⟩ = some (.slice A0_3 l0_3.length c0_3) := (blk_cell Q0.out 3).trans rfl;
       have x0 : w5.cell? ⟨w4.heap.size, 0, none⟩ = some (.int .i64 a0_0) := (blk_cell X0.out 0).trans rfl;
       have x1 : w5.cell? ⟨w4.heap.size, 1, none⟩ = some (.int .i64 a0_1) := (blk_cell X0.out 1).trans rfl;
       have x2 : w5.cell? ⟨w4.heap.size, 2, none⟩ = some (.slice (some ⟨g2, 0, none⟩) l0_2.length cc2) := (blk_cell X0.out 2).trans rfl;
       have x3 : w5.cell? ⟨w4.heap.size, 3, none⟩ = some (.slice (some ⟨g3, 0, none⟩) l0_3.length cc3) := (blk_cell X0.out 3).trans rfl;
       have V7 : Aside0 (Kd.R (Kd.int .i64) 3 w5 w.heap.size (fun k => w4.heap.size < k) v7 R1) := ⟨Kd.R_lower (Kd.R_mono (Kd.R_bound ho) (fun k hk => by have := hk.2.1; simp at this; omega)) (by simpa using HS4.out)⟩;
       obtain ⟨A7, e7, rfl⟩ := Kd.R_slice ho;
       clear hb ho hlt HS4 T2 T3; clear _t tok4; have tok5 : True := trivial)
    | (go_at_call 28; have _t := tok5; (with_reducible refine (laws_eqIntS.calls K _ _ R1 _ _ R1 true _ (Kd.R_reads' V7.out).2.2 (Kd.R_reads' V7.out).2.1 (Kd.R_reads' V4.out).2.2 (Kd.R_reads' V4.out).2.1 hE.out).mono ?_); rintro e w6 ⟨rfl, ⟨nd6, rfl⟩⟩; have n0_ := Aside0.mk (pw_below_drewN HB.out nd6);
       have n1_ := Aside0.mk (blk_drewN Q0.out nd6);
       have n2_ := Aside0.mk (Kd.R_drewN V4.out nd6);
       have n3_ := Aside0.mk (Kd.R_drewN G2.out nd6);
       have n4_ := Aside0.mk (Kd.R_drewN G3.out nd6);
       have n5_ := Aside0.mk (blk_drewN X0.out nd6);
       have n6_ := Aside0.mk (Kd.R_drewN V7.out nd6);
       clear q0 q1 q2 q3 x0 x1 x2 x3 HB Q0 V4 G2 G3 X0 V7;
       have HB := n0_;
       have Q0 := n1_;
       have V4 := n2_;
       have G2 := n3_;
       have G3 := n4_;
       have X0 := n5_;
       have V7 := n6_;
       clear n0_ n1_ n2_ n3_ n4_ n5_ n6_;
       have q0 : (w5.drewN nd6).cell? ⟨w.heap.size, 0, none⟩ = some (.int .i64 a0_0) := (blk_cell Q0.out 0).trans rfl;
       have q1 : (w5.drewN nd6).cell? ⟨w.heap.size, 1, none⟩ = some (.int .i64 a0_1) := (blk_cell Q0.out 1).trans rfl;
       have q2 : (w5.drewN nd6).cell? ⟨w.heap.size, 2, none⟩ = some (.slice A0_2 l0_2.length c0_2) := (blk_cell Q0.out 2).trans rfl;
       have q3 : (w5.drewN nd6).cell? ⟨w.heap.size, 3, none⟩ = some (.slice A0_3 l0_3.length c0_3) := (blk_cell Q0.out 3).trans rfl;
       have x0 : (w5.drewN nd6).cell? ⟨w4.heap.size, 0, none⟩ = some (.int .i64 a0_0) := (blk_cell X0.out 0).trans rfl;
       have x1 : (w5.drewN nd6).cell? ⟨w4.heap.size, 1, none⟩ = some (.int .i64 a0_1) := (blk_cell X0.out 1).trans rfl;
       have x2 : (w5.drewN nd6).cell? ⟨w4.heap.size, 2, none⟩ = some (.slice (some ⟨g2, 0, none⟩) l0_2.length cc2) := (blk_cell X0.out 2).trans rfl;
       have x3 : (w5.drewN nd6).cell? ⟨w4.heap.size, 3, none⟩ = some (.slice (some ⟨g3, 0, none⟩) l0_3.length cc3) := (blk_cell X0.out 3).trans rfl; clear _t tok5; have tok6 : True := trivial))
  go_region_held3 (fun w' => w'.cell? ⟨w.heap.size, 0, none⟩ = some (.int .i64 a0_0) ∧ w'.cell? ⟨w.heap.size, 1, none⟩ = some (.int .i64 a0_1) ∧ w'.cell? ⟨w.heap.size, 2, none⟩ = some (.slice A0_2 l0_2.length c0_2) ∧ w'.cell? ⟨w.heap.size, 3, none⟩ = some (.slice A0_3 l0_3.length c0_3) ∧ w'.cell? ⟨w4.heap.size, 0, none⟩ = some (.int .i64 a0_0) ∧ w'.cell? ⟨w4.heap.size, 1, none⟩ = some (.int .i64 a0_1) ∧ w'.cell? ⟨w4.heap.size, 2, none⟩ = some (.slice (some ⟨g2, 0, none⟩) l0_2.length cc2) ∧ w'.cell? ⟨w4.heap.size, 3, none⟩ = some (.slice (some ⟨g3, 0, none⟩) l0_3.length cc3))
    (first | (exact ⟨q0, q1, q2, q3, x0, x1, x2, x3⟩) | (go_split_ands; exact ⟨pw_cell_below hbB (by assumption), pw_cell_below hbB (by assumption), pw_cell_below hbB (by assumption), pw_cell_below hbB (by assumption), pw_cell_below hbB (by assumption), pw_cell_below hbB (by assumption), pw_cell_below hbB (by assumption), pw_cell_below hbB (by assumption)⟩) | (go_split_ands; exact ⟨pw_cell_below hbA (by assumption), pw_cell_below hbA (by assumption), pw_cell_below hbA (by assumption), pw_cell_below hbA (by assumption), pw_cell_below hbA (by assumption), pw_cell_below hbA (by assumption), pw_cell_below hbA (by assumption), pw_cell_below hbA (by assumption)⟩))
    ((first
      | (go_at_call 13; refine (laws_toFigure_full a0_0 a0_1 A0_2 c0_2 l0_2 A0_3 c0_3 l0_3 _ (Kd.C_below HR2.out (below_drew HB.out)) HC2.out (Kd.C_below HR3.out (below_drew HB.out)) HC3.out HL2.out HL3.out).mono ?_; rintro e wA ⟨y2, yc2, y3, yc3, rfl, hyA, hyB, hyne, hbA⟩)
      | (go_at_call 15; refine (laws_intactFigure_full a0_0 a0_1 g2 cc2 g3 cc3 y2 yc2 y3 yc3 l0_2 l0_3 _ (Kd.R_reads' (Kd.R_below (Kd.R_drew G2.out) hbA)).2.2 (Kd.R_reads' G2.out).2.1 (Kd.R_reads' (Kd.R_below (Kd.R_drew G3.out) hbA)).2.2 (Kd.R_reads' G3.out).2.1 (Kd.R_reads' hyA).2.2 (Kd.R_reads' hyA).2.1 (Kd.R_reads' hyB).2.2 (Kd.R_reads' hyB).2.1 HL2.out HL3.out).mono ?_; rintro e wB ⟨rfl, hbB⟩)))
  have n0_ := Aside0.mk (below_step (below_step (below_drew HB.out) hbA) hbB)
  have n1_ := Aside0.mk (blk_keep (blk_keep (blk_drew Q0.out) hbA) hbB)
  have n2_ := Aside0.mk (Kd.R_below (Kd.R_below (Kd.R_drew V4.out) hbA) hbB)
  have n3_ := Aside0.mk (Kd.R_below (Kd.R_below (Kd.R_drew G2.out) hbA) hbB)
  have n4_ := Aside0.mk (Kd.R_below (Kd.R_below (Kd.R_drew G3.out) hbA) hbB)
  have n5_ := Aside0.mk (blk_keep (blk_keep (blk_drew X0.out) hbA) hbB)
  have n6_ := Aside0.mk (Kd.R_below (Kd.R_below (Kd.R_drew V7.out) hbA) hbB)
  go_split_ands
  clear q0 q1 q2 q3 x0 x1 x2 x3 HB Q0 V4 G2 G3 X0 V7 hyA hyB hyne hbA hbB
  have HB := n0_
  have Q0 := n1_
  have V4 := n2_
  have G2 := n3_
  have G3 := n4_
  have X0 := n5_
  have V7 := n6_
  clear n0_ n1_ n2_ n3_ n4_ n5_ n6_
  have q0 : wB.cell? ⟨w.heap.size, 0, none⟩ = some (.int .i64 a0_0) := (blk_cell Q0.out 0).trans rfl
  have q1 : wB.cell? ⟨w.heap.size, 1, none⟩ = some (.int .i64 a0_1) := (blk_cell Q0.out 1).trans rfl
  have q2 : wB.cell? ⟨w.heap.size, 2, none⟩ = some (.slice A0_2 l0_2.length c0_2) := (blk_cell Q0.out 2).trans rfl
  have q3 : wB.cell? ⟨w.heap.size, 3, none⟩ = some (.slice A0_3 l0_3.length c0_3) := (blk_cell Q0.out 3).trans rfl
  have x0 : wB.cell? ⟨w4.heap.size, 0, none⟩ = some (.int .i64 a0_0) := (blk_cell X0.out 0).trans rfl
  have x1 : wB.cell? ⟨w4.heap.size, 1, none⟩ = some (.int .i64 a0_1) := (blk_cell X0.out 1).trans rfl
  have x2 : wB.cell? ⟨w4.heap.size, 2, none⟩ = some (.slice (some ⟨g2, 0, none⟩) l0_2.length cc2) := (blk_cell X0.out 2).trans rfl
  have x3 : wB.cell? ⟨w4.heap.size, 3, none⟩ = some (.slice (some ⟨g3, 0, none⟩) l0_3.length cc3) := (blk_cell X0.out 3).trans rfl
  have P23 : Aside0 (∀ k : Nat, k = g2 → ¬ k = g3) := ⟨fun k h1 h2 => HG.out.2.2 (h1.symm.trans h2)⟩
  have P32 : Aside0 (∀ k : Nat, k = g3 → ¬ k = g2) := ⟨fun k h1 h2 => HG.out.2.2 (h2.symm.trans h1)⟩
  have T2 : Aside0 (Kd.R (Kd.int .i64) 3 wB w.heap.size (fun k => k = g2) (.slice (some ⟨g2, 0, none⟩) l0_2.length cc2) l0_2) := ⟨by have h := Kd.R_take G2.out (m := l0_2.length) (by rw [fullOf_length]; omega); rw [fullOf_take] at h; exact h⟩
  have T3 : Aside0 (Kd.R (Kd.int .i64) 3 wB w.heap.size (fun k => k = g3) (.slice (some ⟨g3, 0, none⟩) l0_3.length cc3) l0_3) := ⟨by have h := Kd.R_take G3.out (m := l0_3.length) (by rw [fullOf_length]; omega); rw [fullOf_take] at h; exact h⟩
  go_wp2_with (first
    | (go_at_call 29; have _t := tok6; (with_reducible refine (laws_markFigure.calls K a0_0 a0_1 (fun k => k = g2) _ l0_2 (fun k => k = g3) _ l0_3 101 mk (marks l0_2.length 101) (marks l0_3.length (101 + (l0_2.length : Int))) w _ HB.out T2.out P23.out T3.out P32.out hM.out).mono ?_); rintro e w8 ⟨rfl, hm2, hm3, hbw, hk⟩; have n0_ := Aside0.mk (hbw);
       have n1_ := Aside0.mk (blk_kept2 Q0.out hk (fun h => by have a := (Array.getElem?_eq_some_iff.1 Q0.out).1; have := HG.out; have := HW2.out; omega));
       have n2_ := Aside0.mk (Kd.R_kept V4.out hk (fun k hk_ h => by have := HG.out; omega));
       have n3_ := Aside0.mk (blk_kept2 X0.out hk (fun h => by have := HG.out; omega));
       have n4_ := Aside0.mk (Kd.R_kept V7.out hk (fun k hk_ h => by have := HG.out; omega));
       clear q0 q1 q2 q3 x0 x1 x2 x3 HB Q0 V4 X0 V7;
       have HB := n0_;
       have Q0 := n1_;
       have V4 := n2_;
       have X0 := n3_;
       have V7 := n4_;
       clear n0_ n1_ n2_ n3_ n4_;
       have q0 : w8.cell? ⟨w.heap.size, 0, none⟩ = some (.int .i64 a0_0) := (blk_cell Q0.out 0).trans rfl;
       have q1 : w8.cell? ⟨w.heap.size, 1, none⟩ = some (.int .i64 a0_1) := (blk_cell Q0.out 1).trans rfl;
       have q2 : w8.cell? ⟨w.heap.size, 2, none⟩ = some (.slice A0_2 l0_2.length c0_2) := (blk_cell Q0.out 2).trans rfl;
       have q3 : w8.cell? ⟨w.heap.size, 3, none⟩ = some (.slice A0_3 l0_3.length c0_3) := (blk_cell Q0.out 3).trans rfl;
       have x0 : w8.cell? ⟨w4.heap.size, 0, none⟩ = some (.int .i64 a0_0) := (blk_cell X0.out 0).trans rfl;
       have x1 : w8.cell? ⟨w4.heap.size, 1, none⟩ = some (.int .i64 a0_1) := (blk_cell X0.out 1).trans rfl;
       have x2 : w8.cell? ⟨w4.heap.size, 2, none⟩ = some (.slice (some ⟨g2, 0, none⟩) l0_2.length cc2) := (blk_cell X0.out 2).trans rfl;
       have x3 : w8.cell? ⟨w4.heap.size, 3, none⟩ = some (.slice (some ⟨g3, 0, none⟩) l0_3.length cc3) := (blk_cell X0.out 3).trans rfl;
       clear hm2 hm3 hbw hk T2 T3 G2 G3; clear _t tok6; have tok7 : True := trivial)
    | (go_at_call 28; have _t := tok7; (with_reducible refine (laws_eqIntS.calls K _ _ R1 _ _ R1 true _ (Kd.R_reads' V7.out).2.2 (Kd.R_reads' V7.out).2.1 (Kd.R_reads' V4.out).2.2 (Kd.R_reads' V4.out).2.1 hE.out).mono ?_); rintro e w9 ⟨rfl, ⟨nd9, rfl⟩⟩; have n0_ := Aside0.mk (pw_below_drewN HB.out nd9);
       have n1_ := Aside0.mk (blk_drewN Q0.out nd9);
       have n2_ := Aside0.mk (Kd.R_drewN V4.out nd9);
       have n3_ := Aside0.mk (blk_drewN X0.out nd9);
       have n4_ := Aside0.mk (Kd.R_drewN V7.out nd9);
       clear q0 q1 q2 q3 x0 x1 x2 x3 HB Q0 V4 X0 V7;
       have HB := n0_;
       have Q0 := n1_;
       have V4 := n2_;
       have X0 := n3_;
       have V7 := n4_;
       clear n0_ n1_ n2_ n3_ n4_;
       have q0 : (w8.drewN nd9).cell? ⟨w.heap.size, 0, none⟩ = some (.int .i64 a0_0) := (blk_cell Q0.out 0).trans rfl;
       have q1 : (w8.drewN nd9).cell? ⟨w.heap.size, 1, none⟩ = some (.int .i64 a0_1) := (blk_cell Q0.out 1).trans rfl;
       have q2 : (w8.drewN nd9).cell? ⟨w.heap.size, 2, none⟩ = some (.slice A0_2 l0_2.length c0_2) := (blk_cell Q0.out 2).trans rfl;
       have q3 : (w8.drewN nd9).cell? ⟨w.heap.size, 3, none⟩ = some (.slice A0_3 l0_3.length c0_3) := (blk_cell Q0.out 3).trans rfl;
       have x0 : (w8.drewN nd9).cell? ⟨w4.heap.size, 0, none⟩ = some (.int .i64 a0_0) := (blk_cell X0.out 0).trans rfl;
       have x1 : (w8.drewN nd9).cell? ⟨w4.heap.size, 1, none⟩ = some (.int .i64 a0_1) := (blk_cell X0.out 1).trans rfl;
       have x2 : (w8.drewN nd9).cell? ⟨w4.heap.size, 2, none⟩ = some (.slice (some ⟨g2, 0, none⟩) l0_2.length cc2) := (blk_cell X0.out 2).trans rfl;
       have x3 : (w8.drewN nd9).cell? ⟨w4.heap.size, 3, none⟩ = some (.slice (some ⟨g3, 0, none⟩) l0_3.length cc3) := (blk_cell X0.out 3).trans rfl;
       have TV7 := Aside0.mk (Kd.R_tight rfl V7.out);
       have HN7 : Aside0 (∀ k, some k = (Value.slice A7 R1.length e7).ownBlock → w4.heap.size < k) := ⟨fun k hk => V7.out.1 k hk.symm⟩; clear _t tok7; have tok8 : True := trivial)
    | (go_at_call 30; have _t := tok8; (with_reducible refine (laws_markIntS.calls K (fun k => some k = (Value.slice A7 R1.length e7).ownBlock) _ R1 101 mm (marks R1.length 101) w _ HB.out TV7.out hMC.out).mono ?_); rintro e w10 ⟨rfl, hm, hbw, hk⟩; have n0_ := Aside0.mk (hbw);
       have n1_ := Aside0.mk (blk_kept2 Q0.out hk (fun h => by have := HN7.out _ h; have := HG.out; have := HW2.out; omega));
       have n2_ := Aside0.mk (Kd.R_kept V4.out hk (fun k hk_ h => by have := HN7.out _ h; have := HG.out; omega));
       have n3_ := Aside0.mk (blk_kept2 X0.out hk (fun h => by have := HN7.out _ h; omega));
       clear q0 q1 q2 q3 x0 x1 x2 x3 HB Q0 V4 X0;
       have HB := n0_;
       have Q0 := n1_;
       have V4 := n2_;
       have X0 := n3_;
       clear n0_ n1_ n2_ n3_;
       have V7n := Aside0.mk hm;
       clear V7;
       have V7 := V7n;
       clear V7n;
       have q0 : w10.cell? ⟨w.heap.size, 0, none⟩ = some (.int .i64 a0_0) := (blk_cell Q0.out 0).trans rfl;
       have q1 : w10.cell? ⟨w.heap.size, 1, none⟩ = some (.int .i64 a0_1) := (blk_cell Q0.out 1).trans rfl;
       have q2 : w10.cell? ⟨w.heap.size, 2, none⟩ = some (.slice A0_2 l0_2.length c0_2) := (blk_cell Q0.out 2).trans rfl;
       have q3 : w10.cell? ⟨w.heap.size, 3, none⟩ = some (.slice A0_3 l0_3.length c0_3) := (blk_cell Q0.out 3).trans rfl;
       have x0 : w10.cell? ⟨w4.heap.size, 0, none⟩ = some (.int .i64 a0_0) := (blk_cell X0.out 0).trans rfl;
       have x1 : w10.cell? ⟨w4.heap.size, 1, none⟩ = some (.int .i64 a0_1) := (blk_cell X0.out 1).trans rfl;
       have x2 : w10.cell? ⟨w4.heap.size, 2, none⟩ = some (.slice (some ⟨g2, 0, none⟩) l0_2.length cc2) := (blk_cell X0.out 2).trans rfl;
       have x3 : w10.cell? ⟨w4.heap.size, 3, none⟩ = some (.slice (some ⟨g3, 0, none⟩) l0_3.length cc3) := (blk_cell X0.out 3).trans rfl;
       clear hm hbw hk TV7 HN7; clear _t tok8; have tok9 : True := trivial)
    | (go_at_call 31; have _t := tok9; (with_reducible refine (heldIntS_marks K R1.length 101 mm A7 e7 _ _ _ V7.out hHC.out).mono ?_); rintro e w11 ⟨rfl, ⟨nd, rfl⟩⟩; skip; clear _t tok9; have tok10 : True := trivial)
    | (go_at_call 13; have _t := tok10; (with_reducible refine (laws_toFigure.calls K a0_0 a0_1 A0_2 c0_2 l0_2 A0_3 c0_3 l0_3 true a0_0 a0_1 l0_2 l0_3 _ (Kd.C_below HR2.out (pw_below_drewN HB.out _)) HC2.out (Kd.C_below HR3.out (pw_below_drewN HB.out _)) HC3.out hT1.out).mono ?_); rintro e w12 ⟨u2, u3, rfl, hu2, hu3, hb⟩; have n0_ := Aside0.mk (below_step (pw_below_drewN HB.out _) hb);
       have n1_ := Aside0.mk (blk_keep (blk_drewN Q0.out _) hb);
       have n2_ := Aside0.mk (Kd.R_below (Kd.R_drewN V4.out _) hb);
       have n3_ := Aside0.mk (blk_keep (blk_drewN X0.out _) hb);
       have n4_ := Aside0.mk (Kd.R_below (Kd.R_drewN V7.out _) hb);
       clear q0 q1 q2 q3 x0 x1 x2 x3 HB Q0 V4 X0 V7;
       have HB := n0_;
       have Q0 := n1_;
       have V4 := n2_;
       have X0 := n3_;
       have V7 := n4_;
       clear n0_ n1_ n2_ n3_ n4_;
       have q0 : w12.cell? ⟨w.heap.size, 0, none⟩ = some (.int .i64 a0_0) := (blk_cell Q0.out 0).trans rfl;
       have q1 : w12.cell? ⟨w.heap.size, 1, none⟩ = some (.int .i64 a0_1) := (blk_cell Q0.out 1).trans rfl;
       have q2 : w12.cell? ⟨w.heap.size, 2, none⟩ = some (.slice A0_2 l0_2.length c0_2) := (blk_cell Q0.out 2).trans rfl;
       have q3 : w12.cell? ⟨w.heap.size, 3, none⟩ = some (.slice A0_3 l0_3.length c0_3) := (blk_cell Q0.out 3).trans rfl;
       have x0 : w12.cell? ⟨w4.heap.size, 0, none⟩ = some (.int .i64 a0_0) := (blk_cell X0.out 0).trans rfl;
       have x1 : w12.cell? ⟨w4.heap.size, 1, none⟩ = some (.int .i64 a0_1) := (blk_cell X0.out 1).trans rfl;
       have x2 : w12.cell? ⟨w4.heap.size, 2, none⟩ = some (.slice (some ⟨g2, 0, none⟩) l0_2.length cc2) := (blk_cell X0.out 2).trans rfl;
       have x3 : w12.cell? ⟨w4.heap.size, 3, none⟩ = some (.slice (some ⟨g3, 0, none⟩) l0_3.length cc3) := (blk_cell X0.out 3).trans rfl;
       obtain ⟨B2, d2, rfl⟩ := Kd.R_slice hu2;
       obtain ⟨B3, d3, rfl⟩ := Kd.R_slice hu3;
       have U2 := Aside0.mk (Kd.R_reads' hu2).2;
       have U3 := Aside0.mk (Kd.R_reads' hu3).2;
       clear hb hu2 hu3; clear _t tok10; have tok11 : True := trivial)
    | (go_at_call 27; have _t := tok11; (with_reducible refine (HI.out B2 d2 B3 d3 _ U2.out.2 U2.out.1 U3.out.2 U3.out.1 (HGT.out _ HB.out)).mono ?_); rintro e w13 ⟨v12, rfl, ho, hb⟩; have n0_ := Aside0.mk (below_step HB.out hb);
       have n1_ := Aside0.mk (blk_keep Q0.out hb);
       have n2_ := Aside0.mk (Kd.R_below V4.out hb);
       have n3_ := Aside0.mk (blk_keep X0.out hb);
       have n4_ := Aside0.mk (Kd.R_below V7.out hb);
       clear q0 q1 q2 q3 x0 x1 x2 x3 HB Q0 V4 X0 V7;
       have HB := n0_;
       have Q0 := n1_;
       have V4 := n2_;
       have X0 := n3_;
       have V7 := n4_;
       clear n0_ n1_ n2_ n3_ n4_;
       have q0 : w13.cell? ⟨w.heap.size, 0, none⟩ = some (.int .i64 a0_0) := (blk_cell Q0.out 0).trans rfl;
       have q1 : w13.cell? ⟨w.heap.size, 1, none⟩ = some (.int .i64 a0_1) := (blk_cell Q0.out 1).trans rfl;
       have q2 : w13.cell? ⟨w.heap.size, 2, none⟩ = some (.slice A0_2 l0_2.length c0_2) := (blk_cell Q0.out 2).trans rfl;
       have q3 : w13.cell? ⟨w.heap.size, 3, none⟩ = some (.slice A0_3 l0_3.length c0_3) := (blk_cell Q0.out 3).trans rfl;
       have x0 : w13.cell? ⟨w4.heap.size, 0, none⟩ = some (.int .i64 a0_0) := (blk_cell X0.out 0).trans rfl;
       have x1 : w13.cell? ⟨w4.heap.size, 1, none⟩ = some (.int .i64 a0_1) := (blk_cell X0.out 1).trans rfl;
       have x2 : w13.cell? ⟨w4.heap.size, 2, none⟩ = some (.slice (some ⟨g2, 0, none⟩) l0_2.length cc2) := (blk_cell X0.out 2).trans rfl;
       have x3 : w13.cell? ⟨w4.heap.size, 3, none⟩ = some (.slice (some ⟨g3, 0, none⟩) l0_3.length cc3) := (blk_cell X0.out 3).trans rfl;
       obtain ⟨A12, e12, rfl⟩ := Kd.R_slice ho;
       have V12 := Aside0.mk (Kd.R_reads' ho).2;
       clear hb ho U2 U3; clear _t tok11; have tok12 : True := trivial)
    | (go_at_call 28; have _t := tok12; (with_reducible refine (laws_eqIntS.calls K _ _ R1 _ _ R1 true _ V12.out.2 V12.out.1 (Kd.R_reads' V4.out).2.2 (Kd.R_reads' V4.out).2.1 hE.out).mono ?_); rintro e w14 ⟨rfl, ⟨nd14, rfl⟩⟩; have HBe := Aside0.mk HB.out;
       have n0_ := Aside0.mk (pw_below_drewN HB.out nd14);
       have n1_ := Aside0.mk (blk_drewN Q0.out nd14);
       have n2_ := Aside0.mk (Kd.R_drewN V4.out nd14);
       have n3_ := Aside0.mk (blk_drewN X0.out nd14);
       have n4_ := Aside0.mk (Kd.R_drewN V7.out nd14);
       clear q0 q1 q2 q3 x0 x1 x2 x3 HB Q0 V4 X0 V7;
       have HB := n0_;
       have Q0 := n1_;
       have V4 := n2_;
       have X0 := n3_;
       have V7 := n4_;
       clear n0_ n1_ n2_ n3_ n4_;
       clear V12; clear _t tok12; have tok13 : True := trivial)
    | (go_at_call 31; have _t := tok13; (with_reducible refine (heldIntS_marks K R1.length 101 mm A7 e7 _ _ _ V7.out hHC.out).mono ?_); rintro e w15 ⟨rfl, ⟨nd2, rfl⟩⟩; skip; clear _t tok13; have tok14 : True := trivial))
  go_ret
  exact ⟨by first | rfl | simp, pw_below_drewN HBe.out _⟩

end Go.Proofs.YtgakmcoeccmkbaaDoor.P

