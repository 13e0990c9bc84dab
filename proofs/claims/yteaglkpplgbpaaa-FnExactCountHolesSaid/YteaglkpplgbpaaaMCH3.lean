/- For every input the law FnExactCountHoles answers true: the program's CountHoles tells what the reference's CountHoles tells; no condition. (part 3 of the proof; the words of the kit's print tool and the texts of this seat, merged by a program) -/
import Derived.Test.YteaglkpplgbpaaaMCH2
namespace Go.Proofs.Yteaglkpplgbpaaa.P
open Go.RowKit Go.Proofs.YteaglkpplgbpaaaW.PrintWords Go.Proofs.YteaglkpplgbpaaaW.PrintLast Go.Proofs.YteaglkpplgbpaaaW.PrintMore
attribute [local go_sem] max2_int min2_int max_two min_two max_three min_three max_four min_four   -- for this text's walks alone
set_option linter.unusedVariables false
set_option linter.unusedSimpArgs false

def spec_fiHas.f (k : Nat) (a0_0 : Int) (a0_1 : Int) (l0_2 : List Int) (l0_3 : List Int) (a1 : Bool) (a2 : Int) (a3 : Int) : Option (Bool) := (spec_fiEdge.f a0_0 a0_1 l0_2 l0_3 a1 a2 a3).bind fun bt122 => (if a1 = true then ((spec_l1Has.f k l0_3 bt122.1).bind fun t124 => (some t124)) else ((spec_l1Has.f k l0_2 bt122.1).bind fun t125 => (some t125)))
theorem spec_fiHas.mono : ∀ a0 a1 a2 a3 a4 a5 a6 k, LeO (spec_fiHas.f k a0 a1 a2 a3 a4 a5 a6) (spec_fiHas.f (k + 1) a0 a1 a2 a3 a4 a5 a6) := by
 intro a0 a1 a2 a3 a4 a5 a6 k
 unfold spec_fiHas.f
 repeat' first
   | (with_reducible exact spec_l1Has.mono _ _ _)
   | (with_reducible exact LeO.refl _)
   | (with_reducible exact LeO.none _)
   | (with_reducible refine LeO.ite ?_ ?_)
   | (with_reducible refine LeO.bind ?_ (fun _ => ?_))
   | exact spec_l1Has.mono _ _ _
   | exact LeO.none _
   | refine LeO.ite ?_ ?_
   | refine LeO.bind ?_ (fun _ => ?_)
set_option maxHeartbeats 8000000 in
set_option maxRecDepth 100000 in
theorem spec_fiHas.calls (k : Nat) (a0_0 : Int) (a0_1 : Int) (A0_2 : Option Addr) (c0_2 : Nat) (l0_2 : List Int) (A0_3 : Option Addr) (c0_3 : Nat) (l0_3 : List Int) (a1 : Bool) (a2 : Int) (a3 : Int) (r : Bool) (w : World) (hr0_2 : Kd.C (Kd.int .i64) w A0_2 l0_2.length l0_2) (hc0_2 : l0_2.length ≤ c0_2) (hr0_3 : Kd.C (Kd.int .i64) w A0_3 l0_3.length l0_3) (hc0_3 : l0_3.length ≤ c0_3) (h : spec_fiHas.f k a0_0 a0_1 l0_2 l0_3 a1 a2 a3 = some r) :
  Calls Try.prog 78 #[.agg #[.int .i64 a0_0, .int .i64 a0_1, .slice A0_2 l0_2.length c0_2, .slice A0_3 l0_3.length c0_3], .bool a1, .int .i64 a2, .int .i64 a3] w fun e w' => e = .returned (.bool r) ∧ Below w.heap.size w w' := by
 have hu28 := Try.underlying28
 have HR0_2 := Aside0.mk hr0_2
 have HC0_2 := Aside0.mk hc0_2
 clear hr0_2 hc0_2
 have HR0_3 := Aside0.mk hr0_3
 have HC0_3 := Aside0.mk hc0_3
 clear hr0_3 hc0_3
 have HB := Aside0.mk (Below.refl w.heap.size w)
 have H : ((spec_fiEdge.f a0_0 a0_1 l0_2 l0_3 a1 a2 a3).bind fun bt122 => (if a1 = true then ((spec_l1Has.f k l0_3 bt122.1).bind fun t124 => (some t124)) else ((spec_l1Has.f k l0_2 bt122.1).bind fun t125 => (some t125)))) = some r := h
 clear h
 replace H := Option.bind_eq_some_iff.mp H
 obtain ⟨⟨t122, t123⟩, A50, H⟩ := H
 replace H : (if a1 = true then ((spec_l1Has.f k l0_3 t122).bind fun t124 => (some t124)) else ((spec_l1Has.f k l0_2 t122).bind fun t125 => (some t125))) = some r := H
 have A5 := Aside0.mk A50
 clear A50
 by_cases c6 : a1 = true
 ·subst c6
  have H1 : ((spec_l1Has.f k l0_3 t122).bind fun t124 => (some t124)) = some r := by rw [if_pos rfl] at H; exact H
  clear H
  have H := H1
  clear H1
  replace H := Option.bind_eq_some_iff.mp H
  obtain ⟨t124, A70, H⟩ := H
  replace H : (some t124) = some r := H
  have A7 := Aside0.mk A70
  clear A70
  obtain rfl := Option.some.inj H
  go_enter Try.func78, Try.ntmps78
  go_wp2_with (first | ((with_reducible refine gate_dst (N := 4) rfl ?_); refine boxE_ (N := 4) (cs := #[.int .i64 a0_0, .int .i64 a0_1, .slice A0_2 l0_2.length c0_2, .slice A0_3 l0_3.length c0_3]) (t := 28) ?_; intro gb121 hg w8 hbox hb; have n0_ := Aside0.mk (below_step (bl0_ HB.out) hb); have n1_ := Aside0.mk (hbox); have n2_ := Aside0.mk ((bs0_ hg HB.out : w.heap.size ≤ gb121)); have n3_ := Aside0.mk ((bs0_ hg HB.out : w.heap.size ≤ gb121)); clear HB; have HB := n0_; have BK121 := n1_; have GW121 := n2_; have GE121 := n3_; clear n0_ n1_ n2_ n3_; clear hb hbox hg; have hcz9_0 : w8.cell? ⟨gb121, 0, none⟩ = some (.int .i64 a0_0) := (blk_cell BK121.out 0).trans rfl; have hcz9_1 : w8.cell? ⟨gb121, 1, none⟩ = some (.int .i64 a0_1) := (blk_cell BK121.out 1).trans rfl; have hcz9_2 : w8.cell? ⟨gb121, 2, none⟩ = some (.slice A0_2 l0_2.length c0_2) := (blk_cell BK121.out 2).trans rfl; have hcz9_3 : w8.cell? ⟨gb121, 3, none⟩ = some (.slice A0_3 l0_3.length c0_3) := (blk_cell BK121.out 3).trans rfl; have hfz9_0 := blk_frozen BK121.out 0; have hfz9_1 := blk_frozen BK121.out 1; have hfz9_2 := blk_frozen BK121.out 2; have hfz9_3 := blk_frozen BK121.out 3) | ((with_reducible refine gate_callee (f := 125) rfl ?_); refine goesL_ (some 16) rfl rfl Try.func125 (by kernel_rfl) rfl #[.agg #[.int .i64 a0_0, .int .i64 a0_1, .slice A0_2 l0_2.length c0_2, .slice A0_3 l0_3.length c0_3], .bool true, .int .i64 a2, .int .i64 a3] rfl ob_ ?_; (with_reducible refine (spec_fiEdge.calls a0_0 a0_1 _ _ l0_2 _ _ l0_3 true a2 a3 t122 t123 _ ?side1 ?side2 ?side3 ?side4 A5.out).mono ?_); (case side1 => exact kc_ (Kd.C_below HR0_2.out HB.out)); (case side2 => exact HC0_2.out); (case side3 => exact kc_ (Kd.C_below HR0_3.out HB.out)); (case side4 => exact HC0_3.out); rintro e w10 ⟨rfl, hb⟩; refine ⟨_, rfl, ?_⟩; have n0_ := Aside0.mk (bb_ BK121.out hb); have n1_ := Aside0.mk (below_step (bl1_ HB.out GE121.out) hb); clear BK121; clear HB; have BK121 := n0_; have HB := n1_; clear n0_ n1_; (try clear hb); (try clear hb2); (try clear hk); (try clear hi); have hcz11_0 : w10.cell? ⟨gb121, 0, none⟩ = some (.int .i64 a0_0) := (blk_cell BK121.out 0).trans rfl; have hcz11_1 : w10.cell? ⟨gb121, 1, none⟩ = some (.int .i64 a0_1) := (blk_cell BK121.out 1).trans rfl; have hcz11_2 : w10.cell? ⟨gb121, 2, none⟩ = some (.slice A0_2 l0_2.length c0_2) := (blk_cell BK121.out 2).trans rfl; have hcz11_3 : w10.cell? ⟨gb121, 3, none⟩ = some (.slice A0_3 l0_3.length c0_3) := (blk_cell BK121.out 3).trans rfl; have hfz11_0 := blk_frozen BK121.out 0; have hfz11_1 := blk_frozen BK121.out 1; have hfz11_2 := blk_frozen BK121.out 2; have hfz11_3 := blk_frozen BK121.out 3) | ((with_reducible refine gate_callee (f := 126) rfl ?_); refine goesL_ (some 23) rfl rfl Try.func126 (by kernel_rfl) rfl #[.slice A0_3 l0_3.length c0_3, .int .i64 t122] rfl ob_ ?_; (with_reducible refine (spec_l1Has.calls k _ _ l0_3 t122 t124 _ ?side1 ?side2 A7.out).mono ?_); (case side1 => exact kc_ (Kd.C_below HR0_3.out HB.out)); (case side2 => exact HC0_3.out); rintro e w' ⟨rfl, ⟨nd, rfl⟩⟩; refine ⟨_, rfl, ?_⟩))
  go_ret
  exact ⟨er_, bl1_ HB.out GE121.out⟩
 ·replace c6 := Bool.eq_false_iff.mpr c6
  subst c6
  have H1 : ((spec_l1Has.f k l0_2 t122).bind fun t125 => (some t125)) = some r := by rw [if_neg (show ¬ (false = true) by decide)] at H; exact H
  clear H
  have H := H1
  clear H1
  replace H := Option.bind_eq_some_iff.mp H
  obtain ⟨t125, A120, H⟩ := H
  replace H : (some t125) = some r := H
  have A12 := Aside0.mk A120
  clear A120
  obtain rfl := Option.some.inj H
  go_enter Try.func78, Try.ntmps78
  go_wp2_with (first | ((with_reducible refine gate_dst (N := 4) rfl ?_); refine boxE_ (N := 4) (cs := #[.int .i64 a0_0, .int .i64 a0_1, .slice A0_2 l0_2.length c0_2, .slice A0_3 l0_3.length c0_3]) (t := 28) ?_; intro gb121 hg w13 hbox hb; have n0_ := Aside0.mk (below_step (bl0_ HB.out) hb); have n1_ := Aside0.mk (hbox); have n2_ := Aside0.mk ((bs0_ hg HB.out : w.heap.size ≤ gb121)); have n3_ := Aside0.mk ((bs0_ hg HB.out : w.heap.size ≤ gb121)); clear HB; have HB := n0_; have BK121 := n1_; have GW121 := n2_; have GE121 := n3_; clear n0_ n1_ n2_ n3_; clear hb hbox hg; have hcz14_0 : w13.cell? ⟨gb121, 0, none⟩ = some (.int .i64 a0_0) := (blk_cell BK121.out 0).trans rfl; have hcz14_1 : w13.cell? ⟨gb121, 1, none⟩ = some (.int .i64 a0_1) := (blk_cell BK121.out 1).trans rfl; have hcz14_2 : w13.cell? ⟨gb121, 2, none⟩ = some (.slice A0_2 l0_2.length c0_2) := (blk_cell BK121.out 2).trans rfl; have hcz14_3 : w13.cell? ⟨gb121, 3, none⟩ = some (.slice A0_3 l0_3.length c0_3) := (blk_cell BK121.out 3).trans rfl; have hfz14_0 := blk_frozen BK121.out 0; have hfz14_1 := blk_frozen BK121.out 1; have hfz14_2 := blk_frozen BK121.out 2; have hfz14_3 := blk_frozen BK121.out 3) | ((with_reducible refine gate_callee (f := 125) rfl ?_); refine goesL_ (some 16) rfl rfl Try.func125 (by kernel_rfl) rfl #[.agg #[.int .i64 a0_0, .int .i64 a0_1, .slice A0_2 l0_2.length c0_2, .slice A0_3 l0_3.length c0_3], .bool false, .int .i64 a2, .int .i64 a3] rfl ob_ ?_; (with_reducible refine (spec_fiEdge.calls a0_0 a0_1 _ _ l0_2 _ _ l0_3 false a2 a3 t122 t123 _ ?side1 ?side2 ?side3 ?side4 A5.out).mono ?_); (case side1 => exact kc_ (Kd.C_below HR0_2.out HB.out)); (case side2 => exact HC0_2.out); (case side3 => exact kc_ (Kd.C_below HR0_3.out HB.out)); (case side4 => exact HC0_3.out); rintro e w15 ⟨rfl, hb⟩; refine ⟨_, rfl, ?_⟩; have n0_ := Aside0.mk (bb_ BK121.out hb); have n1_ := Aside0.mk (below_step (bl1_ HB.out GE121.out) hb); clear BK121; clear HB; have BK121 := n0_; have HB := n1_; clear n0_ n1_; (try clear hb); (try clear hb2); (try clear hk); (try clear hi); have hcz16_0 : w15.cell? ⟨gb121, 0, none⟩ = some (.int .i64 a0_0) := (blk_cell BK121.out 0).trans rfl; have hcz16_1 : w15.cell? ⟨gb121, 1, none⟩ = some (.int .i64 a0_1) := (blk_cell BK121.out 1).trans rfl; have hcz16_2 : w15.cell? ⟨gb121, 2, none⟩ = some (.slice A0_2 l0_2.length c0_2) := (blk_cell BK121.out 2).trans rfl; have hcz16_3 : w15.cell? ⟨gb121, 3, none⟩ = some (.slice A0_3 l0_3.length c0_3) := (blk_cell BK121.out 3).trans rfl; have hfz16_0 := blk_frozen BK121.out 0; have hfz16_1 := blk_frozen BK121.out 1; have hfz16_2 := blk_frozen BK121.out 2; have hfz16_3 := blk_frozen BK121.out 3) | ((with_reducible refine gate_callee (f := 126) rfl ?_); refine goesL_ (some 27) rfl rfl Try.func126 (by kernel_rfl) rfl #[.slice A0_2 l0_2.length c0_2, .int .i64 t122] rfl ob_ ?_; (with_reducible refine (spec_l1Has.calls k _ _ l0_2 t122 t125 _ ?side1 ?side2 A12.out).mono ?_); (case side1 => exact kc_ (Kd.C_below HR0_2.out HB.out)); (case side2 => exact HC0_2.out); rintro e w' ⟨rfl, ⟨nd, rfl⟩⟩; refine ⟨_, rfl, ?_⟩))
  go_ret
  exact ⟨er_, bl1_ HB.out GE121.out⟩


def spec_l1Put.l0 : Nat → List Int → Int → Int → Option (List Int)
 | 0, _, _, _ => none
 | k + 1, x0, x1, x5 => if x5 < (x0.length : Int) then (if 0 ≤ x5 then (if (rd x0 x5) < x1 then (spec_l1Put.l0 k x0 x1 (wrap64 (x5 + 1))) else (if (rd x0 x5) = x1 then (some x0) else ((some (([] : List Int) : List Int)).bind fun y273 => (if x5 ≤ (x0.length : Int) then ((some (x0.take (x5 : Int).toNat : List Int)).bind fun y276 => (if y273.length + y276.length < 17592186044416 then ((some (y273 ++ y276 : List Int)).bind fun y280 => (if y280.length < 17592186044416 then ((some (y280 ++ [x1] : List Int)).bind fun y283 => ((some (x0.drop (x5 : Int).toNat : List Int)).bind fun y286 => (if y283.length + y286.length < 17592186044416 then (some (y283 ++ y286)) else (none)))) else (none))) else (none))) else (none))))) else (none)) else ((some (([] : List Int) : List Int)).bind fun y293 => (if 0 ≤ x5 then (if x5 ≤ (x0.length : Int) then ((some (x0.take (x5 : Int).toNat : List Int)).bind fun y296 => (if y293.length + y296.length < 17592186044416 then ((some (y293 ++ y296 : List Int)).bind fun y300 => (if y300.length < 17592186044416 then ((some (y300 ++ [x1] : List Int)).bind fun y303 => ((some (x0.drop (x5 : Int).toNat : List Int)).bind fun y306 => (if y303.length + y306.length < 17592186044416 then (some (y303 ++ y306)) else (none)))) else (none))) else (none))) else (none)) else (none)))
def spec_l1Put.f (k : Nat) (l0 : List Int) (a1 : Int) : Option (List Int) := spec_l1Put.l0 k l0 a1 0
theorem spec_l1Put.mono_l : ∀ k, (∀ y0 y1 y2, LeO (spec_l1Put.l0 k y0 y1 y2) (spec_l1Put.l0 (k + 1) y0 y1 y2))
 | 0 => fun _ _ _ r h => by simp [spec_l1Put.l0] at h
 | k + 1 => by
  have ih0 := spec_l1Put.mono_l k
  ·intro y0 y1 y2
   unfold spec_l1Put.l0
   repeat' first
   | (with_reducible exact ih0 _ _ _)
   | (with_reducible exact LeO.refl _)
   | (with_reducible exact LeO.none _)
   | (with_reducible refine LeO.ite ?_ ?_)
   | (with_reducible refine LeO.bind ?_ (fun _ => ?_))
   | exact ih0 _ _ _
   | exact LeO.none _
   | refine LeO.ite ?_ ?_
   | refine LeO.bind ?_ (fun _ => ?_)
theorem spec_l1Put.mono : ∀ a0 a1 k, LeO (spec_l1Put.f k a0 a1) (spec_l1Put.f (k + 1) a0 a1) := by
 intro a0 a1 k
 have ih0 := spec_l1Put.mono_l k
 unfold spec_l1Put.f
 repeat' first
   | (with_reducible exact ih0 _ _ _)
   | (with_reducible exact LeO.refl _)
   | (with_reducible exact LeO.none _)
   | (with_reducible refine LeO.ite ?_ ?_)
   | (with_reducible refine LeO.bind ?_ (fun _ => ?_))
   | exact ih0 _ _ _
   | exact LeO.none _
   | refine LeO.ite ?_ ?_
   | refine LeO.bind ?_ (fun _ => ?_)
set_option maxHeartbeats 8000000 in
set_option maxRecDepth 100000 in
theorem spec_l1Put.calls (k : Nat) (P0_ : Nat → Prop) (u9000_ : Value) (l0 : List Int) (a1 : Int) (r : List Int) (w0 w : World) (hB : Below w0.heap.size w0 w) (ho0 : Kd.R (Kd.int .i64) 3 w w0.heap.size P0_ u9000_ l0) (h : spec_l1Put.f k l0 a1 = some r) :
  Calls Try.prog 95 #[u9000_, .int .i64 a1] w fun e w' => ∃ v0_ : Value, e = .returned (v0_) ∧ Kd.R (Kd.int .i64) 3 w' w0.heap.size (fun k_ => (P0_ k_ ∨ w.heap.size ≤ k_)) v0_ r ∧ Below w0.heap.size w0 w' ∧ Kept w w' (fun k_ => P0_ k_) := by
 have HO0 := Aside0.mk (show Kd.R (Kd.int .i64) 3 w w0.heap.size (fun k_ => (P0_ k_ ∨ w.heap.size ≤ k_)) u9000_ l0 from Kd.R_mono ho0 (fun k_ hk => (.inl hk)))
 have HK := Aside0.mk (Kept.refl w (fun k_ => P0_ k_))
 have HW0 := Aside0.mk hB.size
 have HB := Aside0.mk hB
 clear hB
 have H : (spec_l1Put.l0 k l0 a1 0) = some r := h
 clear h
 have H' := Aside0.mk H
 clear H
 go_enter Try.func95, Try.ntmps95
 go_wp2
 go_loopg [5] k (fun kq v5 w' => ∃ (x5_1 : Int), v5 = .int .i64 x5_1 ∧ Aside0 (spec_l1Put.l0 kq l0 a1 x5_1 = some r) ∧ Aside0 (kq ≤ k) ∧ Aside0 (Kd.R (Kd.int .i64) 3 w' w0.heap.size (fun k_ => (P0_ k_ ∨ w.heap.size ≤ k_)) u9000_ l0) ∧ Aside0 (Kept w w' (fun k_ => P0_ k_)) ∧ Aside0 (Below w0.heap.size w0 w'))
 case atStart => exact ⟨(0), rs_, H', ⟨Nat.le_refl _⟩, ⟨kr_ HO0.out⟩, ⟨by repeat (first | (with_reducible first | exact HK.out | apply Kept.alloc | apply Kept.drewN | apply Kept.drew) | exact HK.out)⟩, ⟨bl0_ HB.out⟩⟩
 case round =>
  clear H'
  try clear p2
  obtain ⟨x5_1, rfl, HA, HK1, HO_0, HK, HB⟩ := hrel
  cases gk with
  | zero => exact absurd HA.out (by simp [spec_l1Put.l0])
  | succ k1 =>
   have H := HA.out
   clear HA
   simp only [spec_l1Put.l0] at H
   by_cases c3 : x5_1 < (l0.length : Int)
   ·rw [if_pos c3] at H
    have c3b0 : decide (x5_1 < (l0.length : Int)) = true := decide_eq_true c3
    clear c3
    by_cases c4 : 0 ≤ x5_1
    ·rw [if_pos c4] at H
     have c4b0 : decide (0 ≤ x5_1) = true := decide_eq_true c4
     clear c4
     by_cases c5 : (rd l0 x5_1) < a1
     ·rw [if_pos c5] at H
      have c5b0 : decide ((rd l0 x5_1) < a1) = true := decide_eq_true c5
      clear c5
      have H' := Aside0.mk H
      clear H
      obtain ⟨Ao6, co6, eo6⟩ := Kd.R_slice HO_0.out
      subst eo6
      have p271 : 0 ≤ (x5_1 : Int) := of_decide_eq_true as_
      have q271 : x5_1 < (l0.length : Int) := of_decide_eq_true as_
      obtain ⟨ad271, e271, hx271_0⟩ := Kd.at_int (Kd.R_reads' HO_0.out).2.2 x5_1 p271 q271
      cases e271
      replace p271 := eq_true p271
      replace q271 := eq_true q271
      go_wp2
      go_roundg k1
      case measure => have := HK1.out; omega
      case rel => exact ⟨(wrap64 (x5_1 + 1)), rs_, H', ⟨by have := HK1.out; omega⟩, ⟨kr_ HO_0.out⟩, ⟨by repeat (first | (with_reducible first | exact HK.out | apply Kept.alloc | apply Kept.drewN | apply Kept.drew) | exact HK.out)⟩, ⟨bl0_ HB.out⟩⟩
     ·rw [if_neg c5] at H
      have c5b0 : decide ((rd l0 x5_1) < a1) = false := decide_eq_false c5
      clear c5
      by_cases c7 : (rd l0 x5_1) = a1
      ·rw [if_pos c7] at H
       have c7b0 : ((rd l0 x5_1) == a1) = true := beq_iff_eq.mpr c7
       have c7b1 : ((rd l0 x5_1) != a1) = false := bne_eq_false_iff_eq.mpr c7
       clear c7
       obtain rfl := Option.some.inj H
       obtain ⟨Ao8, co8, eo8⟩ := Kd.R_slice HO_0.out
       subst eo8
       have p271 : 0 ≤ (x5_1 : Int) := of_decide_eq_true as_
       have q271 : x5_1 < (l0.length : Int) := of_decide_eq_true as_
       obtain ⟨ad271, e271, hx271_0⟩ := Kd.at_int (Kd.R_reads' HO_0.out).2.2 x5_1 p271 q271
       cases e271
       replace p271 := eq_true p271
       replace q271 := eq_true q271
       have p272 : 0 ≤ (x5_1 : Int) := of_decide_eq_true as_
       have q272 : x5_1 < (l0.length : Int) := of_decide_eq_true as_
       obtain ⟨ad272, e272, hx272_0⟩ := Kd.at_int (Kd.R_reads' HO_0.out).2.2 x5_1 p272 q272
       obtain rfl : ad271 = ad272 := (by injection e272)
       replace p272 := eq_true p272
       replace q272 := eq_true q272
       go_wp2
       go_ret
       exact ⟨_, er_, by (with_reducible repeat (first | apply Kd.R_alloc | apply Kd.R_drewN | apply Kd.R_drew)); exact HO_0.out, bl0_ HB.out, by repeat (first | (with_reducible first | exact HK.out | apply Kept.alloc | apply Kept.drewN | apply Kept.drew) | exact HK.out)⟩
      ·rw [if_neg c7] at H
       have c7b0 : ((rd l0 x5_1) == a1) = false := beq_eq_false_iff_ne.mpr c7
       have c7b1 : ((rd l0 x5_1) != a1) = true := bne_iff_ne.mpr c7
       obtain ⟨y273, hy273⟩ : ∃ y_ : List Int, y_ = (([] : List Int)) := ⟨_, rfl⟩
       replace H : (if x5_1 ≤ (l0.length : Int) then ((some (l0.take (x5_1 : Int).toNat : List Int)).bind fun y276 => (if y273.length + y276.length < 17592186044416 then ((some (y273 ++ y276 : List Int)).bind fun y280 => (if y280.length < 17592186044416 then ((some (y280 ++ [a1] : List Int)).bind fun y283 => ((some (l0.drop (x5_1 : Int).toNat : List Int)).bind fun y286 => (if y283.length + y286.length < 17592186044416 then (some (y283 ++ y286)) else (none)))) else (none))) else (none))) else (none)) = some r := by first | (rw [hy273]; with_reducible exact H) | (have H2_ := (Option.bind_some _ _).symm.trans H; rw [hy273]; with_reducible exact H2_) | (have H2_ := (Option.bind_some _ _).symm.trans H; with_reducible exact H2_) | with_reducible exact H | (rw [hy273]; exact H) | exact H
       have Ny273 := Aside0.mk hy273
       clear hy273
       have c9b0 := eq_true (of_decide_eq_true as_ : 0 ≤ x5_1)
       by_cases c10 : x5_1 ≤ (l0.length : Int)
       ·rw [if_pos c10] at H
        have c10b0 := eq_true c10
        have c10b1 : decide (x5_1 ≤ (l0.length : Int)) = true := decide_eq_true c10
        clear c10
        obtain ⟨y276, hy276⟩ : ∃ y_ : List Int, y_ = (l0.take (x5_1 : Int).toNat) := ⟨_, rfl⟩
        replace H : (if y273.length + y276.length < 17592186044416 then ((some (y273 ++ y276 : List Int)).bind fun y280 => (if y280.length < 17592186044416 then ((some (y280 ++ [a1] : List Int)).bind fun y283 => ((some (l0.drop (x5_1 : Int).toNat : List Int)).bind fun y286 => (if y283.length + y286.length < 17592186044416 then (some (y283 ++ y286)) else (none)))) else (none))) else (none)) = some r := by first | (rw [hy276]; with_reducible exact H) | (have H2_ := (Option.bind_some _ _).symm.trans H; rw [hy276]; with_reducible exact H2_) | (have H2_ := (Option.bind_some _ _).symm.trans H; with_reducible exact H2_) | with_reducible exact H | (rw [hy276]; exact H) | exact H
        have Ny276 := Aside0.mk hy276
        clear hy276
        by_cases c11 : y273.length + y276.length < 17592186044416
        ·rw [if_pos c11] at H
         have LMc11 := Aside0.mk c11
         clear c11
         obtain ⟨y280, hy280⟩ : ∃ y_ : List Int, y_ = (y273 ++ y276) := ⟨_, rfl⟩
         replace H : (if y280.length < 17592186044416 then ((some (y280 ++ [a1] : List Int)).bind fun y283 => ((some (l0.drop (x5_1 : Int).toNat : List Int)).bind fun y286 => (if y283.length + y286.length < 17592186044416 then (some (y283 ++ y286)) else (none)))) else (none)) = some r := by first | (rw [hy280]; with_reducible exact H) | (have H2_ := (Option.bind_some _ _).symm.trans H; rw [hy280]; with_reducible exact H2_) | (have H2_ := (Option.bind_some _ _).symm.trans H; with_reducible exact H2_) | with_reducible exact H | (rw [hy280]; exact H) | exact H
         have Ny280 := Aside0.mk hy280
         clear hy280
         by_cases c12 : y280.length < 17592186044416
         ·rw [if_pos c12] at H
          have LMc12 := Aside0.mk c12
          clear c12
          obtain ⟨y283, hy283⟩ : ∃ y_ : List Int, y_ = (y280 ++ [a1]) := ⟨_, rfl⟩
          replace H : ((some (l0.drop (x5_1 : Int).toNat : List Int)).bind fun y286 => (if y283.length + y286.length < 17592186044416 then (some (y283 ++ y286)) else (none))) = some r := by first | (rw [hy283]; with_reducible exact H) | (have H2_ := (Option.bind_some _ _).symm.trans H; rw [hy283]; with_reducible exact H2_) | (have H2_ := (Option.bind_some _ _).symm.trans H; with_reducible exact H2_) | with_reducible exact H | (rw [hy283]; exact H) | exact H
          have Ny283 := Aside0.mk hy283
          clear hy283
          have c13b0 := eq_true (of_decide_eq_true as_ : 0 ≤ x5_1)
          have c14b0 := eq_true (of_decide_eq_true as_ : x5_1 ≤ (l0.length : Int))
          obtain ⟨y286, hy286⟩ : ∃ y_ : List Int, y_ = (l0.drop (x5_1 : Int).toNat) := ⟨_, rfl⟩
          replace H : (if y283.length + y286.length < 17592186044416 then (some (y283 ++ y286)) else (none)) = some r := by first | (rw [hy286]; with_reducible exact H) | (have H2_ := (Option.bind_some _ _).symm.trans H; rw [hy286]; with_reducible exact H2_) | (have H2_ := (Option.bind_some _ _).symm.trans H; with_reducible exact H2_) | with_reducible exact H | (rw [hy286]; exact H) | exact H
          have Ny286 := Aside0.mk hy286
          clear hy286
          by_cases c15 : y283.length + y286.length < 17592186044416
          ·rw [if_pos c15] at H
           have LMc15 := Aside0.mk c15
           clear c15
           obtain ⟨y290, hy290⟩ : ∃ y_ : List Int, y_ = (y283 ++ y286) := ⟨_, rfl⟩
           replace H : (some y290) = some r := by first | (rw [hy290]; with_reducible exact H) | (have H2_ := (Option.bind_some _ _).symm.trans H; rw [hy290]; with_reducible exact H2_) | (have H2_ := (Option.bind_some _ _).symm.trans H; with_reducible exact H2_) | with_reducible exact H | (rw [hy290]; exact H) | exact H
           have Ny290 := Aside0.mk hy290
           clear hy290
           obtain rfl := Option.some.inj H
           obtain ⟨Ao16, co16, eo16⟩ := Kd.R_slice HO_0.out
           subst eo16
           have p271 : 0 ≤ (x5_1 : Int) := of_decide_eq_true as_
           have q271 : x5_1 < (l0.length : Int) := of_decide_eq_true as_
           obtain ⟨ad271, e271, hx271_0⟩ := Kd.at_int (Kd.R_reads' HO_0.out).2.2 x5_1 p271 q271
           cases e271
           replace p271 := eq_true p271
           replace q271 := eq_true q271
           have p272 : 0 ≤ (x5_1 : Int) := of_decide_eq_true as_
           have q272 : x5_1 < (l0.length : Int) := of_decide_eq_true as_
           obtain ⟨ad272, e272, hx272_0⟩ := Kd.at_int (Kd.R_reads' HO_0.out).2.2 x5_1 p272 q272
           obtain rfl : ad271 = ad272 := (by injection e272)
           replace p272 := eq_true p272
           replace q272 := eq_true q272
           go_wp2_with (first | ((with_reducible refine gate_dst (N := 34) rfl ?_); refine Kd.R_lit (Kd.int .i64) _ 3 ?hg (N := 34) ?hd (xs := ([] : List Int)) (inner := []) (ok := fun _ => True) (okp := fun _ => True) ?hr ?hp (fun _ hk => hk) trivial (Below.refl _ _) (Nat.le_refl _) (by simp) ?_; (case hd => rfl); (case hg => rfl); (case hr => first | (go_simp; done) | (go_simp; rfl)); (case hp => exact (Reps.none _ _)); intro v274 w17 ho18 hb hg_ hnew_; clear hg_ hnew_; (first | rw [← Ny273.out] at ho18 | (simp only [Int.reduceToNat] at ho18; rw [← Ny273.out] at ho18)); have n0_ := Aside0.mk (Kd.R_elder' (kr_ HO_0.out) (Kd.R_base ho18) hb); have n1_ := Aside0.mk (Kd.R_lower (Kd.R_new' (Kd.R_newM (M := fun k_ => (P0_ k_ ∨ w.heap.size ≤ k_)) ho18 (by first | exact HK.out.1 | exact (show Kept w _ (fun k_ => P0_ k_) from by repeat (first | (with_reducible first | exact HK.out | apply Kept.alloc | apply Kept.drewN | apply Kept.drew) | exact HK.out)).1) (fun k_ h_ => .inr h_)) (Kd.R_lt (kr_ HO_0.out))) (below_size (bl0_ HB.out))); have n2_ := Aside0.mk (Kept.below (S := (fun k_ => P0_ k_)) (by repeat (first | (with_reducible first | exact HK.out | apply Kept.alloc | apply Kept.drewN | apply Kept.drew) | exact HK.out)) hb); have n3_ := Aside0.mk (below_step (bl0_ HB.out) hb); clear HO_0; clear HK; clear HB; have HO_0 := n0_; have HO275 := n1_; have HK := n2_; have HB := n3_; clear n0_ n1_ n2_ n3_; clear hb ho18; have q19 : (x5_1 : Int) ≤ ((l0.length : Int) : Int) := of_decide_eq_true as_; obtain ⟨i019, hi019, _, hsz19, _⟩ := info_parts info3; have hroom19 : l0.length ≤ co16 := (Kd.R_reads' HO_0.out).2.1; have hC19 : Kd.C (Kd.int .i64) _ (some ad271) l0.length l0 := (Kd.R_reads' HO_0.out).2.2; have hcut19 := cut_to (P := Try.prog) 22 3 .i64 Try.underlying22 hi019 (some ad271) l0.length co16 x5_1 (of_decide_eq_true as_) q19 hroom19; have hr19 := Kd.C_take (m := (x5_1 : Int).toNat) hC19 (by omega); have hy19 : y276.length = (x5_1 : Int).toNat := (by rw [Ny276.out, List.length_take]; omega); rw [← Ny276.out] at hr19; rw [← hy19] at hcut19; have HR279 := Aside0.mk hr19; have HC279 := Aside0.mk (show y276.length ≤ co16 from by omega); clear hr19 hC19 hroom19 hi019 hsz19; have KY19 := Aside0.mk hy19; clear hy19; have KL19 := Aside0.mk (show (x5_1 : Int).toNat ≤ l0.length from by omega); replace q19 := eq_true q19) | ((with_reducible refine gate_builtin (b := .append) (xs := #[.tmp 34, .tmp 37]) rfl ?_); at_builtin; refine Kd.R_append_rows (Kd.int .i64) (w0 := w0) w0.heap.size rfl (.tmp 34) (.tmp 37) 22 3 (.int .i64 0) 8 rfl Try.underlying22 info3 rfl (by decide) (by omega) v274 y273 y276 _ _ _ (fun k_ => (P0_ k_ ∨ w.heap.size ≤ k_) ∧ some k_ ≠ (.slice (some ad271) l0.length co16 : Value).ownBlock) (fun _ => False) rfl rfl ?aO ?aR (fun _ _ h => h) (fun _ h => h.elim) ?aF ?aB ?aS ?aL ?_; (case aR => repeat (first | exact (by repeat (first | (with_reducible exact HR279.out) | (with_reducible refine Kd.C_alloc ?_ _) | (with_reducible refine Kd.C_drewN ?_ _) | (with_reducible refine Kd.C_drew ?_) | exact HR279.out)) | (with_reducible refine Kd.C_alloc ?_ _) | (with_reducible refine Kd.C_drewN ?_ _) | (with_reducible refine Kd.C_drew ?_))); (case aB => exact (bl0_ HB.out)); (case aF => exact (fun k_ hk => ⟨(.inr (Nat.le_trans (by first | exact HK.out.1 | exact (show Kept w _ (fun k_ => P0_ k_) from by repeat (first | (with_reducible first | exact HK.out | apply Kept.alloc | apply Kept.drewN | apply Kept.drew) | exact HK.out)).1) hk)), Kd.fresh' (Kd.R_lt (kr_ HO_0.out)) k_ hk⟩)); (case aO => exact (by (with_reducible repeat (first | apply Kd.R_alloc | apply Kd.R_drewN | apply Kd.R_drew)); exact Kd.R_mono HO275.out (fun _ hk => ⟨hk.1.1, hk.2⟩))); (case aS => exact (below_size (bl0_ HB.out))); (case aL => have := LMc11.out; omega); intro v281 w20 ho hb hg hat; rw [← Ny280.out] at ho; have n0_ := Aside0.mk (Kd.R_after (ok := (fun k_ => (P0_ k_ ∨ w.heap.size ≤ k_))) (kr_ HO_0.out) hg hat); have n1_ := Aside0.mk (hb); have n2_ := Aside0.mk (Kept.of_grown (S := (fun k_ => P0_ k_)) hg (by repeat (first | (with_reducible first | exact HK.out | apply Kept.alloc | apply Kept.drewN | apply Kept.drew) | exact HK.out)) (fun k_ e_ => (HO275.out.1 k_ e_).1.1)); have n3_ := Aside0.mk ((show Kd.C (Kd.int .i64) w20 (some ad271) y276.length y276 from by rw [Ny276.out]; exact Kd.C_take (m := (x5_1 : Int).toNat) ((Kd.R_reads' (Kd.R_after (ok := (fun k_ => (P0_ k_ ∨ w.heap.size ≤ k_))) (kr_ HO_0.out) hg hat)).2.2) KL19.out)); have n4_ := Aside0.mk (ho); clear HO_0; clear HB; clear HK; clear HR279; clear HO275; have HO_0 := n0_; have HB := n1_; have HK := n2_; have HR279 := n3_; have HO282 := n4_; clear n0_ n1_ n2_ n3_ n4_; clear ho hb hg hat) | ((with_reducible refine gate_builtin (b := .append) (xs := #[.tmp 39, .tmp 41]) rfl ?_); at_builtin; refine Kd.R_append (Kd.int .i64) (w0 := w0) w0.heap.size rfl (.tmp 39) (.tmp 41) 22 3 (.int .i64 0) 8 rfl Try.underlying22 info3 rfl (by decide) (by omega) v281 y280 a1 [.int .i64 a1] (fun k_ => (P0_ k_ ∨ w.heap.size ≤ k_) ∧ some k_ ≠ (.slice (some ad271) l0.length co16 : Value).ownBlock) (fun _ => False) rfl rfl ?aP (fun _ hk => hk.elim) ?aF ?aO ?aB ?aS ?aL ?_; (case aP => exact rfl); (case aB => exact (bl0_ HB.out)); (case aF => exact (fun k_ hk => ⟨(.inr (Nat.le_trans (by first | exact HK.out.1 | exact (show Kept w _ (fun k_ => P0_ k_) from by repeat (first | (with_reducible first | exact HK.out | apply Kept.alloc | apply Kept.drewN | apply Kept.drew) | exact HK.out)).1) hk)), Kd.fresh' (Kd.R_lt (kr_ HO_0.out)) k_ hk⟩)); (case aO => exact (kr_ HO282.out)); (case aS => exact (below_size (bl0_ HB.out))); (case aL => have := LMc12.out; omega); intro v284 w21 ho hb hg hat; rw [← Ny283.out] at ho; have n0_ := Aside0.mk (Kd.R_after (ok := (fun k_ => (P0_ k_ ∨ w.heap.size ≤ k_))) (kr_ HO_0.out) hg hat); have n1_ := Aside0.mk (hb); have n2_ := Aside0.mk (Kept.of_grown (S := (fun k_ => P0_ k_)) hg (by repeat (first | (with_reducible first | exact HK.out | apply Kept.alloc | apply Kept.drewN | apply Kept.drew) | exact HK.out)) (fun k_ e_ => (HO282.out.1 k_ e_).1)); have n3_ := Aside0.mk ((show Kd.C (Kd.int .i64) w21 (some ad271) y276.length y276 from by rw [Ny276.out]; exact Kd.C_take (m := (x5_1 : Int).toNat) ((Kd.R_reads' (Kd.R_after (ok := (fun k_ => (P0_ k_ ∨ w.heap.size ≤ k_))) (kr_ HO_0.out) hg hat)).2.2) KL19.out)); have n4_ := Aside0.mk (ho); clear HO_0; clear HB; clear HK; clear HR279; clear HO282; have HO_0 := n0_; have HB := n1_; have HK := n2_; have HR279 := n3_; have HO285 := n4_; clear n0_ n1_ n2_ n3_ n4_; clear ho hb hg hat; have q22 : (x5_1 : Int) ≤ ((l0.length : Int) : Int) := of_decide_eq_true as_; obtain ⟨i022, hi022, _, hsz22, _⟩ := info_parts info3; have hroom22 : l0.length ≤ co16 := (Kd.R_reads' HO_0.out).2.1; have hC22 : Kd.C (Kd.int .i64) _ (some ad271) l0.length l0 := (Kd.R_reads' HO_0.out).2.2; have q022 : (0 : Int) ≤ (x5_1 : Int) := of_decide_eq_true as_; have hcut22 := cut_from (P := Try.prog) 22 3 .i64 Try.underlying22 hi022 1 hsz22 (some ad271) l0.length co16 x5_1 q022 q22; have hr22 := Kd.C_drop (m := (x5_1 : Int).toNat) (c := co16) hC22 (by omega) hroom22; obtain ⟨A22, hA22⟩ : ∃ A1, A1 = (if co16 = (x5_1 : Int).toNat then (some ad271) else ((some ad271) : Option Addr).map (·.add ((x5_1 : Int).toNat * 1))) := ⟨_, rfl⟩; obtain ⟨c22, hc22⟩ : ∃ c1, c1 = co16 - (x5_1 : Int).toNat := ⟨_, rfl⟩; have hy22 : y286.length = l0.length - (x5_1 : Int).toNat := (by rw [Ny286.out, List.length_drop] <;> omega); rw [show (l0).drop (x5_1 : Int).toNat = y286 from Ny286.out.symm] at hr22; replace hr22 : Kd.C (Kd.int .i64) _ A22 y286.length y286 := (by rw [hA22]; exact hr22); rw [← hy22, ← hA22, ← hc22] at hcut22; have HR289 := Aside0.mk hr22; have HC289 := Aside0.mk (show y286.length ≤ c22 from by rw [hy22, hc22]; exact Nat.sub_le_sub_right hroom22 _); clear hr22 hC22 hroom22 hi022 hsz22 hc22; have KY22 := Aside0.mk hy22; have KA22 := Aside0.mk hA22; clear hy22 hA22; have KL22 := Aside0.mk (show (x5_1 : Int).toNat ≤ l0.length from by omega); replace q22 := eq_true q22) | ((with_reducible refine gate_builtin (b := .append) (xs := #[.tmp 43, .tmp 46]) rfl ?_); at_builtin; refine Kd.R_append_rows (Kd.int .i64) (w0 := w0) w0.heap.size rfl (.tmp 43) (.tmp 46) 22 3 (.int .i64 0) 8 rfl Try.underlying22 info3 rfl (by decide) (by omega) v284 y283 y286 _ _ _ (fun k_ => (P0_ k_ ∨ w.heap.size ≤ k_) ∧ some k_ ≠ (.slice (some ad271) l0.length co16 : Value).ownBlock) (fun _ => False) rfl rfl ?aO ?aR (fun _ _ h => h) (fun _ h => h.elim) ?aF ?aB ?aS ?aL ?_; (case aR => repeat (first | exact (by repeat (first | (with_reducible exact HR289.out) | (with_reducible refine Kd.C_alloc ?_ _) | (with_reducible refine Kd.C_drewN ?_ _) | (with_reducible refine Kd.C_drew ?_) | exact HR289.out)) | (with_reducible refine Kd.C_alloc ?_ _) | (with_reducible refine Kd.C_drewN ?_ _) | (with_reducible refine Kd.C_drew ?_))); (case aB => exact (bl0_ HB.out)); (case aF => exact (fun k_ hk => ⟨(.inr (Nat.le_trans (by first | exact HK.out.1 | exact (show Kept w _ (fun k_ => P0_ k_) from by repeat (first | (with_reducible first | exact HK.out | apply Kept.alloc | apply Kept.drewN | apply Kept.drew) | exact HK.out)).1) hk)), Kd.fresh' (Kd.R_lt (kr_ HO_0.out)) k_ hk⟩)); (case aO => exact (kr_ HO285.out)); (case aS => exact (below_size (bl0_ HB.out))); (case aL => have := LMc15.out; omega); intro v291 w23 ho hb hg hat; rw [← Ny290.out] at ho; have n0_ := Aside0.mk (Kd.R_after (ok := (fun k_ => (P0_ k_ ∨ w.heap.size ≤ k_))) (kr_ HO_0.out) hg hat); have n1_ := Aside0.mk (hb); have n2_ := Aside0.mk (Kept.of_grown (S := (fun k_ => P0_ k_)) hg (by repeat (first | (with_reducible first | exact HK.out | apply Kept.alloc | apply Kept.drewN | apply Kept.drew) | exact HK.out)) (fun k_ e_ => (HO285.out.1 k_ e_).1)); have n3_ := Aside0.mk ((show Kd.C (Kd.int .i64) w23 (some ad271) y276.length y276 from by rw [Ny276.out]; exact Kd.C_take (m := (x5_1 : Int).toNat) ((Kd.R_reads' (Kd.R_after (ok := (fun k_ => (P0_ k_ ∨ w.heap.size ≤ k_))) (kr_ HO_0.out) hg hat)).2.2) KL19.out)); have n4_ := Aside0.mk ((show Kd.C (Kd.int .i64) w23 A22 y286.length y286 from by rw [Ny286.out, KA22.out]; exact Kd.C_drop (m := (x5_1 : Int).toNat) (c := co16) ((Kd.R_reads' (Kd.R_after (ok := (fun k_ => (P0_ k_ ∨ w.heap.size ≤ k_))) (kr_ HO_0.out) hg hat)).2.2) KL22.out ((Kd.R_reads' (Kd.R_after (ok := (fun k_ => (P0_ k_ ∨ w.heap.size ≤ k_))) (kr_ HO_0.out) hg hat)).2.1))); have n5_ := Aside0.mk (ho); clear HO_0; clear HB; clear HK; clear HR279; clear HR289; clear HO285; have HO_0 := n0_; have HB := n1_; have HK := n2_; have HR279 := n3_; have HR289 := n4_; have HO292 := n5_; clear n0_ n1_ n2_ n3_ n4_ n5_; clear ho hb hg hat))
           go_ret
           exact ⟨_, er_, by (with_reducible repeat (first | apply Kd.R_alloc | apply Kd.R_drewN | apply Kd.R_drew)); exact Kd.R_mono HO292.out (fun _ hk => hk.1), bl0_ HB.out, by repeat (first | (with_reducible first | exact HK.out | apply Kept.alloc | apply Kept.drewN | apply Kept.drew) | exact HK.out)⟩
          ·rw [if_neg c15] at H
           exact absurd H (by simp)
         ·rw [if_neg c12] at H
          exact absurd H (by simp)
        ·rw [if_neg c11] at H
         exact absurd H (by simp)
       ·rw [if_neg c10] at H
        exact absurd H (by simp)
    ·rw [if_neg c4] at H
     exact absurd H (by simp)
   ·rw [if_neg c3] at H
    have c3b0 : decide (x5_1 < (l0.length : Int)) = false := decide_eq_false c3
    clear c3
    obtain ⟨y293, hy293⟩ : ∃ y_ : List Int, y_ = (([] : List Int)) := ⟨_, rfl⟩
    replace H : (if 0 ≤ x5_1 then (if x5_1 ≤ (l0.length : Int) then ((some (l0.take (x5_1 : Int).toNat : List Int)).bind fun y296 => (if y293.length + y296.length < 17592186044416 then ((some (y293 ++ y296 : List Int)).bind fun y300 => (if y300.length < 17592186044416 then ((some (y300 ++ [a1] : List Int)).bind fun y303 => ((some (l0.drop (x5_1 : Int).toNat : List Int)).bind fun y306 => (if y303.length + y306.length < 17592186044416 then (some (y303 ++ y306)) else (none)))) else (none))) else (none))) else (none)) else (none)) = some r := by first | (rw [hy293]; with_reducible exact H) | (have H2_ := (Option.bind_some _ _).symm.trans H; rw [hy293]; with_reducible exact H2_) | (have H2_ := (Option.bind_some _ _).symm.trans H; with_reducible exact H2_) | with_reducible exact H | (rw [hy293]; exact H) | exact H
    have Ny293 := Aside0.mk hy293
    clear hy293
    by_cases c24 : 0 ≤ x5_1
    ·rw [if_pos c24] at H
     have c24b0 := eq_true c24
     have c24b1 : decide (0 ≤ x5_1) = true := decide_eq_true c24
     clear c24
     by_cases c25 : x5_1 ≤ (l0.length : Int)
     ·rw [if_pos c25] at H
      have c25b0 := eq_true c25
      have c25b1 : decide (x5_1 ≤ (l0.length : Int)) = true := decide_eq_true c25
      clear c25
      obtain ⟨y296, hy296⟩ : ∃ y_ : List Int, y_ = (l0.take (x5_1 : Int).toNat) := ⟨_, rfl⟩
      replace H : (if y293.length + y296.length < 17592186044416 then ((some (y293 ++ y296 : List Int)).bind fun y300 => (if y300.length < 17592186044416 then ((some (y300 ++ [a1] : List Int)).bind fun y303 => ((some (l0.drop (x5_1 : Int).toNat : List Int)).bind fun y306 => (if y303.length + y306.length < 17592186044416 then (some (y303 ++ y306)) else (none)))) else (none))) else (none)) = some r := by first | (rw [hy296]; with_reducible exact H) | (have H2_ := (Option.bind_some _ _).symm.trans H; rw [hy296]; with_reducible exact H2_) | (have H2_ := (Option.bind_some _ _).symm.trans H; with_reducible exact H2_) | with_reducible exact H | (rw [hy296]; exact H) | exact H
      have Ny296 := Aside0.mk hy296
      clear hy296
      by_cases c26 : y293.length + y296.length < 17592186044416
      ·rw [if_pos c26] at H
       have LMc26 := Aside0.mk c26
       clear c26
       obtain ⟨y300, hy300⟩ : ∃ y_ : List Int, y_ = (y293 ++ y296) := ⟨_, rfl⟩
       replace H : (if y300.length < 17592186044416 then ((some (y300 ++ [a1] : List Int)).bind fun y303 => ((some (l0.drop (x5_1 : Int).toNat : List Int)).bind fun y306 => (if y303.length + y306.length < 17592186044416 then (some (y303 ++ y306)) else (none)))) else (none)) = some r := by first | (rw [hy300]; with_reducible exact H) | (have H2_ := (Option.bind_some _ _).symm.trans H; rw [hy300]; with_reducible exact H2_) | (have H2_ := (Option.bind_some _ _).symm.trans H; with_reducible exact H2_) | with_reducible exact H | (rw [hy300]; exact H) | exact H
       have Ny300 := Aside0.mk hy300
       clear hy300
       by_cases c27 : y300.length < 17592186044416
       ·rw [if_pos c27] at H
        have LMc27 := Aside0.mk c27
        clear c27
        obtain ⟨y303, hy303⟩ : ∃ y_ : List Int, y_ = (y300 ++ [a1]) := ⟨_, rfl⟩
        replace H : ((some (l0.drop (x5_1 : Int).toNat : List Int)).bind fun y306 => (if y303.length + y306.length < 17592186044416 then (some (y303 ++ y306)) else (none))) = some r := by first | (rw [hy303]; with_reducible exact H) | (have H2_ := (Option.bind_some _ _).symm.trans H; rw [hy303]; with_reducible exact H2_) | (have H2_ := (Option.bind_some _ _).symm.trans H; with_reducible exact H2_) | with_reducible exact H | (rw [hy303]; exact H) | exact H
        have Ny303 := Aside0.mk hy303
        clear hy303
        have c28b0 := eq_true (of_decide_eq_true as_ : 0 ≤ x5_1)
        have c29b0 := eq_true (of_decide_eq_true as_ : x5_1 ≤ (l0.length : Int))
        obtain ⟨y306, hy306⟩ : ∃ y_ : List Int, y_ = (l0.drop (x5_1 : Int).toNat) := ⟨_, rfl⟩
        replace H : (if y303.length + y306.length < 17592186044416 then (some (y303 ++ y306)) else (none)) = some r := by first | (rw [hy306]; with_reducible exact H) | (have H2_ := (Option.bind_some _ _).symm.trans H; rw [hy306]; with_reducible exact H2_) | (have H2_ := (Option.bind_some _ _).symm.trans H; with_reducible exact H2_) | with_reducible exact H | (rw [hy306]; exact H) | exact H
        have Ny306 := Aside0.mk hy306
        clear hy306
        by_cases c30 : y303.length + y306.length < 17592186044416
        ·rw [if_pos c30] at H
         have LMc30 := Aside0.mk c30
         clear c30
         obtain ⟨y310, hy310⟩ : ∃ y_ : List Int, y_ = (y303 ++ y306) := ⟨_, rfl⟩
         replace H : (some y310) = some r := by first | (rw [hy310]; with_reducible exact H) | (have H2_ := (Option.bind_some _ _).symm.trans H; rw [hy310]; with_reducible exact H2_) | (have H2_ := (Option.bind_some _ _).symm.trans H; with_reducible exact H2_) | with_reducible exact H | (rw [hy310]; exact H) | exact H
         have Ny310 := Aside0.mk hy310
         clear hy310
         obtain rfl := Option.some.inj H
         obtain ⟨Ao31, co31, eo31⟩ := Kd.R_slice HO_0.out
         subst eo31
         go_wp2_with (first | ((with_reducible refine gate_dst (N := 34) rfl ?_); refine Kd.R_lit (Kd.int .i64) _ 3 ?hg (N := 34) ?hd (xs := ([] : List Int)) (inner := []) (ok := fun _ => True) (okp := fun _ => True) ?hr ?hp (fun _ hk => hk) trivial (Below.refl _ _) (Nat.le_refl _) (by simp) ?_; (case hd => rfl); (case hg => rfl); (case hr => first | (go_simp; done) | (go_simp; rfl)); (case hp => exact (Reps.none _ _)); intro v294 w32 ho33 hb hg_ hnew_; clear hg_ hnew_; (first | rw [← Ny293.out] at ho33 | (simp only [Int.reduceToNat] at ho33; rw [← Ny293.out] at ho33)); have n0_ := Aside0.mk (Kd.R_elder' (kr_ HO_0.out) (Kd.R_base ho33) hb); have n1_ := Aside0.mk (Kd.R_lower (Kd.R_new' (Kd.R_newM (M := fun k_ => (P0_ k_ ∨ w.heap.size ≤ k_)) ho33 (by first | exact HK.out.1 | exact (show Kept w _ (fun k_ => P0_ k_) from by repeat (first | (with_reducible first | exact HK.out | apply Kept.alloc | apply Kept.drewN | apply Kept.drew) | exact HK.out)).1) (fun k_ h_ => .inr h_)) (Kd.R_lt (kr_ HO_0.out))) (below_size (bl0_ HB.out))); have n2_ := Aside0.mk (Kept.below (S := (fun k_ => P0_ k_)) (by repeat (first | (with_reducible first | exact HK.out | apply Kept.alloc | apply Kept.drewN | apply Kept.drew) | exact HK.out)) hb); have n3_ := Aside0.mk (below_step (bl0_ HB.out) hb); clear HO_0; clear HK; clear HB; have HO_0 := n0_; have HO295 := n1_; have HK := n2_; have HB := n3_; clear n0_ n1_ n2_ n3_; clear hb ho33; have q34 : (x5_1 : Int) ≤ ((l0.length : Int) : Int) := of_decide_eq_true as_; obtain ⟨i034, hi034, _, hsz34, _⟩ := info_parts info3; have hroom34 : l0.length ≤ co31 := (Kd.R_reads' HO_0.out).2.1; have hC34 : Kd.C (Kd.int .i64) _ Ao31 l0.length l0 := (Kd.R_reads' HO_0.out).2.2; have hcut34 := cut_to (P := Try.prog) 22 3 .i64 Try.underlying22 hi034 Ao31 l0.length co31 x5_1 (of_decide_eq_true as_) q34 hroom34; have hr34 := Kd.C_take (m := (x5_1 : Int).toNat) hC34 (by omega); have hy34 : y296.length = (x5_1 : Int).toNat := (by rw [Ny296.out, List.length_take]; omega); rw [← Ny296.out] at hr34; rw [← hy34] at hcut34; have HR299 := Aside0.mk hr34; have HC299 := Aside0.mk (show y296.length ≤ co31 from by omega); clear hr34 hC34 hroom34 hi034 hsz34; have KY34 := Aside0.mk hy34; clear hy34; have KL34 := Aside0.mk (show (x5_1 : Int).toNat ≤ l0.length from by omega); replace q34 := eq_true q34) | ((with_reducible refine gate_builtin (b := .append) (xs := #[.tmp 34, .tmp 37]) rfl ?_); at_builtin; refine Kd.R_append_rows (Kd.int .i64) (w0 := w0) w0.heap.size rfl (.tmp 34) (.tmp 37) 22 3 (.int .i64 0) 8 rfl Try.underlying22 info3 rfl (by decide) (by omega) v294 y293 y296 _ _ _ (fun k_ => (P0_ k_ ∨ w.heap.size ≤ k_) ∧ some k_ ≠ (.slice Ao31 l0.length co31 : Value).ownBlock) (fun _ => False) rfl rfl ?aO ?aR (fun _ _ h => h) (fun _ h => h.elim) ?aF ?aB ?aS ?aL ?_; (case aR => repeat (first | exact (by repeat (first | (with_reducible exact HR299.out) | (with_reducible refine Kd.C_alloc ?_ _) | (with_reducible refine Kd.C_drewN ?_ _) | (with_reducible refine Kd.C_drew ?_) | exact HR299.out)) | (with_reducible refine Kd.C_alloc ?_ _) | (with_reducible refine Kd.C_drewN ?_ _) | (with_reducible refine Kd.C_drew ?_))); (case aB => exact (bl0_ HB.out)); (case aF => exact (fun k_ hk => ⟨(.inr (Nat.le_trans (by first | exact HK.out.1 | exact (show Kept w _ (fun k_ => P0_ k_) from by repeat (first | (with_reducible first | exact HK.out | apply Kept.alloc | apply Kept.drewN | apply Kept.drew) | exact HK.out)).1) hk)), Kd.fresh' (Kd.R_lt (kr_ HO_0.out)) k_ hk⟩)); (case aO => exact (by (with_reducible repeat (first | apply Kd.R_alloc | apply Kd.R_drewN | apply Kd.R_drew)); exact Kd.R_mono HO295.out (fun _ hk => ⟨hk.1.1, hk.2⟩))); (case aS => exact (below_size (bl0_ HB.out))); (case aL => have := LMc26.out; omega); intro v301 w35 ho hb hg hat; rw [← Ny300.out] at ho; have n0_ := Aside0.mk (Kd.R_after (ok := (fun k_ => (P0_ k_ ∨ w.heap.size ≤ k_))) (kr_ HO_0.out) hg hat); have n1_ := Aside0.mk (hb); have n2_ := Aside0.mk (Kept.of_grown (S := (fun k_ => P0_ k_)) hg (by repeat (first | (with_reducible first | exact HK.out | apply Kept.alloc | apply Kept.drewN | apply Kept.drew) | exact HK.out)) (fun k_ e_ => (HO295.out.1 k_ e_).1.1)); have n3_ := Aside0.mk ((show Kd.C (Kd.int .i64) w35 Ao31 y296.length y296 from by rw [Ny296.out]; exact Kd.C_take (m := (x5_1 : Int).toNat) ((Kd.R_reads' (Kd.R_after (ok := (fun k_ => (P0_ k_ ∨ w.heap.size ≤ k_))) (kr_ HO_0.out) hg hat)).2.2) KL34.out)); have n4_ := Aside0.mk (ho); clear HO_0; clear HB; clear HK; clear HR299; clear HO295; have HO_0 := n0_; have HB := n1_; have HK := n2_; have HR299 := n3_; have HO302 := n4_; clear n0_ n1_ n2_ n3_ n4_; clear ho hb hg hat) | ((with_reducible refine gate_builtin (b := .append) (xs := #[.tmp 39, .tmp 41]) rfl ?_); at_builtin; refine Kd.R_append (Kd.int .i64) (w0 := w0) w0.heap.size rfl (.tmp 39) (.tmp 41) 22 3 (.int .i64 0) 8 rfl Try.underlying22 info3 rfl (by decide) (by omega) v301 y300 a1 [.int .i64 a1] (fun k_ => (P0_ k_ ∨ w.heap.size ≤ k_) ∧ some k_ ≠ (.slice Ao31 l0.length co31 : Value).ownBlock) (fun _ => False) rfl rfl ?aP (fun _ hk => hk.elim) ?aF ?aO ?aB ?aS ?aL ?_; (case aP => exact rfl); (case aB => exact (bl0_ HB.out)); (case aF => exact (fun k_ hk => ⟨(.inr (Nat.le_trans (by first | exact HK.out.1 | exact (show Kept w _ (fun k_ => P0_ k_) from by repeat (first | (with_reducible first | exact HK.out | apply Kept.alloc | apply Kept.drewN | apply Kept.drew) | exact HK.out)).1) hk)), Kd.fresh' (Kd.R_lt (kr_ HO_0.out)) k_ hk⟩)); (case aO => exact (kr_ HO302.out)); (case aS => exact (below_size (bl0_ HB.out))); (case aL => have := LMc27.out; omega); intro v304 w36 ho hb hg hat; rw [← Ny303.out] at ho; have n0_ := Aside0.mk (Kd.R_after (ok := (fun k_ => (P0_ k_ ∨ w.heap.size ≤ k_))) (kr_ HO_0.out) hg hat); have n1_ := Aside0.mk (hb); have n2_ := Aside0.mk (Kept.of_grown (S := (fun k_ => P0_ k_)) hg (by repeat (first | (with_reducible first | exact HK.out | apply Kept.alloc | apply Kept.drewN | apply Kept.drew) | exact HK.out)) (fun k_ e_ => (HO302.out.1 k_ e_).1)); have n3_ := Aside0.mk ((show Kd.C (Kd.int .i64) w36 Ao31 y296.length y296 from by rw [Ny296.out]; exact Kd.C_take (m := (x5_1 : Int).toNat) ((Kd.R_reads' (Kd.R_after (ok := (fun k_ => (P0_ k_ ∨ w.heap.size ≤ k_))) (kr_ HO_0.out) hg hat)).2.2) KL34.out)); have n4_ := Aside0.mk (ho); clear HO_0; clear HB; clear HK; clear HR299; clear HO302; have HO_0 := n0_; have HB := n1_; have HK := n2_; have HR299 := n3_; have HO305 := n4_; clear n0_ n1_ n2_ n3_ n4_; clear ho hb hg hat; have q37 : (x5_1 : Int) ≤ ((l0.length : Int) : Int) := of_decide_eq_true as_; obtain ⟨i037, hi037, _, hsz37, _⟩ := info_parts info3; have hroom37 : l0.length ≤ co31 := (Kd.R_reads' HO_0.out).2.1; have hC37 : Kd.C (Kd.int .i64) _ Ao31 l0.length l0 := (Kd.R_reads' HO_0.out).2.2; have q037 : (0 : Int) ≤ (x5_1 : Int) := of_decide_eq_true as_; have hcut37 := cut_from (P := Try.prog) 22 3 .i64 Try.underlying22 hi037 1 hsz37 Ao31 l0.length co31 x5_1 q037 q37; have hr37 := Kd.C_drop (m := (x5_1 : Int).toNat) (c := co31) hC37 (by omega) hroom37; obtain ⟨A37, hA37⟩ : ∃ A1, A1 = (if co31 = (x5_1 : Int).toNat then Ao31 else (Ao31 : Option Addr).map (·.add ((x5_1 : Int).toNat * 1))) := ⟨_, rfl⟩; obtain ⟨c37, hc37⟩ : ∃ c1, c1 = co31 - (x5_1 : Int).toNat := ⟨_, rfl⟩; have hy37 : y306.length = l0.length - (x5_1 : Int).toNat := (by rw [Ny306.out, List.length_drop] <;> omega); rw [show (l0).drop (x5_1 : Int).toNat = y306 from Ny306.out.symm] at hr37; replace hr37 : Kd.C (Kd.int .i64) _ A37 y306.length y306 := (by rw [hA37]; exact hr37); rw [← hy37, ← hA37, ← hc37] at hcut37; have HR309 := Aside0.mk hr37; have HC309 := Aside0.mk (show y306.length ≤ c37 from by rw [hy37, hc37]; exact Nat.sub_le_sub_right hroom37 _); clear hr37 hC37 hroom37 hi037 hsz37 hc37; have KY37 := Aside0.mk hy37; have KA37 := Aside0.mk hA37; clear hy37 hA37; have KL37 := Aside0.mk (show (x5_1 : Int).toNat ≤ l0.length from by omega); replace q37 := eq_true q37) | ((with_reducible refine gate_builtin (b := .append) (xs := #[.tmp 43, .tmp 46]) rfl ?_); at_builtin; refine Kd.R_append_rows (Kd.int .i64) (w0 := w0) w0.heap.size rfl (.tmp 43) (.tmp 46) 22 3 (.int .i64 0) 8 rfl Try.underlying22 info3 rfl (by decide) (by omega) v304 y303 y306 _ _ _ (fun k_ => (P0_ k_ ∨ w.heap.size ≤ k_) ∧ some k_ ≠ (.slice Ao31 l0.length co31 : Value).ownBlock) (fun _ => False) rfl rfl ?aO ?aR (fun _ _ h => h) (fun _ h => h.elim) ?aF ?aB ?aS ?aL ?_; (case aR => repeat (first | exact (by repeat (first | (with_reducible exact HR309.out) | (with_reducible refine Kd.C_alloc ?_ _) | (with_reducible refine Kd.C_drewN ?_ _) | (with_reducible refine Kd.C_drew ?_) | exact HR309.out)) | (with_reducible refine Kd.C_alloc ?_ _) | (with_reducible refine Kd.C_drewN ?_ _) | (with_reducible refine Kd.C_drew ?_))); (case aB => exact (bl0_ HB.out)); (case aF => exact (fun k_ hk => ⟨(.inr (Nat.le_trans (by first | exact HK.out.1 | exact (show Kept w _ (fun k_ => P0_ k_) from by repeat (first | (with_reducible first | exact HK.out | apply Kept.alloc | apply Kept.drewN | apply Kept.drew) | exact HK.out)).1) hk)), Kd.fresh' (Kd.R_lt (kr_ HO_0.out)) k_ hk⟩)); (case aO => exact (kr_ HO305.out)); (case aS => exact (below_size (bl0_ HB.out))); (case aL => have := LMc30.out; omega); intro v311 w38 ho hb hg hat; rw [← Ny310.out] at ho; have n0_ := Aside0.mk (Kd.R_after (ok := (fun k_ => (P0_ k_ ∨ w.heap.size ≤ k_))) (kr_ HO_0.out) hg hat); have n1_ := Aside0.mk (hb); have n2_ := Aside0.mk (Kept.of_grown (S := (fun k_ => P0_ k_)) hg (by repeat (first | (with_reducible first | exact HK.out | apply Kept.alloc | apply Kept.drewN | apply Kept.drew) | exact HK.out)) (fun k_ e_ => (HO305.out.1 k_ e_).1)); have n3_ := Aside0.mk ((show Kd.C (Kd.int .i64) w38 Ao31 y296.length y296 from by rw [Ny296.out]; exact Kd.C_take (m := (x5_1 : Int).toNat) ((Kd.R_reads' (Kd.R_after (ok := (fun k_ => (P0_ k_ ∨ w.heap.size ≤ k_))) (kr_ HO_0.out) hg hat)).2.2) KL34.out)); have n4_ := Aside0.mk ((show Kd.C (Kd.int .i64) w38 A37 y306.length y306 from by rw [Ny306.out, KA37.out]; exact Kd.C_drop (m := (x5_1 : Int).toNat) (c := co31) ((Kd.R_reads' (Kd.R_after (ok := (fun k_ => (P0_ k_ ∨ w.heap.size ≤ k_))) (kr_ HO_0.out) hg hat)).2.2) KL37.out ((Kd.R_reads' (Kd.R_after (ok := (fun k_ => (P0_ k_ ∨ w.heap.size ≤ k_))) (kr_ HO_0.out) hg hat)).2.1))); have n5_ := Aside0.mk (ho); clear HO_0; clear HB; clear HK; clear HR299; clear HR309; clear HO305; have HO_0 := n0_; have HB := n1_; have HK := n2_; have HR299 := n3_; have HR309 := n4_; have HO312 := n5_; clear n0_ n1_ n2_ n3_ n4_ n5_; clear ho hb hg hat))
         go_ret
         exact ⟨_, er_, by (with_reducible repeat (first | apply Kd.R_alloc | apply Kd.R_drewN | apply Kd.R_drew)); exact Kd.R_mono HO312.out (fun _ hk => hk.1), bl0_ HB.out, by repeat (first | (with_reducible first | exact HK.out | apply Kept.alloc | apply Kept.drewN | apply Kept.drew) | exact HK.out)⟩
        ·rw [if_neg c30] at H
         exact absurd H (by simp)
       ·rw [if_neg c27] at H
        exact absurd H (by simp)
      ·rw [if_neg c26] at H
       exact absurd H (by simp)
     ·rw [if_neg c25] at H
      exact absurd H (by simp)
    ·rw [if_neg c24] at H
     exact absurd H (by simp)


mutual
def spec_liRegions.l0 : Nat → Int → Int → List Bool → List (List Int) → Int → Int → Int → Int → List Int → List Int → Option ((List (List Int)))
 | 0, _, _, _, _, _, _, _, _, _, _ => none
 | k + 1, x3, x4, x5, x6, x27, x28, x314000, x314001, x314002, x314003 => if x28 < x27 then (if 0 ≤ x28 then (if x28 < (x5.length : Int) then (if rdOf false x5 x28 = true then (spec_liRegions.l0 k x3 x4 x5 x6 x27 (wrap64 (x28 + 1)) x314000 x314001 x314002 x314003) else (spec_liRegions.l1 k x3 x4 (x5.set (x28 : Int).toNat true) x6 (([x28] : List Int)) ([] : List Int) false 0 x27 x28 x314000 x314001 x314002 x314003)) else (none)) else (none)) else (some x6)
def spec_liRegions.l1 : Nat → Int → Int → List Bool → List (List Int) → List Int → List Int → Bool → Int → Int → Int → Int → Int → List Int → List Int → Option ((List (List Int)))
 | 0, _, _, _, _, _, _, _, _, _, _, _, _, _, _ => none
 | k + 1, x3, x4, x5, x6, x8, x9, x10, x11, x27, x28, x314000, x314001, x314002, x314003 => if x11 < (x8.length : Int) then (if 0 ≤ x11 then (if x3 = 0 then (none) else ((spec_l1Put.f k x9 (rd x8 x11)).bind fun t328 => (spec_liRegions.l2 k x3 x4 x5 x6 x8 t328 x10 x11 (Int.tmod (rd x8 x11) x3) (wrap64 (Int.tdiv (rd x8 x11) x3)) 0 x27 x28 x314000 x314001 x314002 x314003))) else (none)) else (if x10 = true then (spec_liRegions.l0 k x3 x4 x5 x6 x27 (wrap64 (x28 + 1)) x314000 x314001 x314002 x314003) else (if x6.length < 5864062014805 then (spec_liRegions.l0 k x3 x4 x5 (x6 ++ [x9]) x27 (wrap64 (x28 + 1)) x314000 x314001 x314002 x314003) else (none)))
def spec_liRegions.l2 : Nat → Int → Int → List Bool → List (List Int) → List Int → List Int → Bool → Int → Int → Int → Int → Int → Int → Int → Int → List Int → List Int → Option ((List (List Int)))
 | 0, _, _, _, _, _, _, _, _, _, _, _, _, _, _, _, _, _ => none
 | k + 1, x3, x4, x5, x6, x8, x9, x10, x11, x12, x13, x14, x27, x28, x314000, x314001, x314002, x314003 => if x14 < 4 then ((spec_fiHas.f k x314000 x314001 x314002 x314003 false x12 x13).bind fun t331 => ((spec_fiHas.f k x314000 x314001 x314002 x314003 true (wrap64 (x12 + 1)) x13).bind fun t332 => ((spec_fiHas.f k x314000 x314001 x314002 x314003 false x12 (wrap64 (x13 + 1))).bind fun t333 => ((spec_fiHas.f k x314000 x314001 x314002 x314003 true x12 x13).bind fun t334 => ((some (([t331, t332, t333, t334] : List Bool) : List Bool)).bind fun y335 => (if 0 ≤ x14 then (if x14 < (y335.length : Int) then ((some (([0, 1, 0, (-1)] : List Int) : List Int)).bind fun y339 => (if x14 < (y339.length : Int) then ((some (([(-1), 0, 1, 0] : List Int) : List Int)).bind fun y343 => (if x14 < (y343.length : Int) then (if rdOf false y335 x14 = true then (spec_liRegions.l2 k x3 x4 x5 x6 x8 x9 x10 x11 x12 x13 (wrap64 (x14 + 1)) x27 x28 x314000 x314001 x314002 x314003) else ((spec_l1In.f (wrap64 (x12 + (rd y339 x14))) 0 (wrap64 (x3 - 1))).bind fun t347 => (if t347 = true then ((spec_l1In.f (wrap64 (x13 + (rd y343 x14))) 0 (wrap64 (x4 - 1))).bind fun t348 => (spec_liRegions.j3 k x3 x4 x5 x6 x8 x9 x10 x11 x12 x13 x14 (wrap64 (x12 + (rd y339 x14))) (wrap64 (x13 + (rd y343 x14))) x27 x28 (!t348) x314000 x314001 x314002 x314003)) else (spec_liRegions.j3 k x3 x4 x5 x6 x8 x9 x10 x11 x12 x13 x14 (wrap64 (x12 + (rd y339 x14))) (wrap64 (x13 + (rd y343 x14))) x27 x28 true x314000 x314001 x314002 x314003)))) else (none))) else (none))) else (none)) else (none))))))) else (spec_liRegions.l1 k x3 x4 x5 x6 x8 x9 x10 (wrap64 (x11 + 1)) x27 x28 x314000 x314001 x314002 x314003)
def spec_liRegions.j3 : Nat → Int → Int → List Bool → List (List Int) → List Int → List Int → Bool → Int → Int → Int → Int → Int → Int → Int → Int → Bool → Int → Int → List Int → List Int → Option ((List (List Int)))
 | 0, _, _, _, _, _, _, _, _, _, _, _, _, _, _, _, _, _, _, _, _ => none
 | k + 1, x3, x4, x5, x6, x8, x9, x10, x11, x12, x13, x14, x16, x17, x27, x28, x104, x314000, x314001, x314002, x314003 => if x104 = true then (spec_liRegions.l2 k x3 x4 x5 x6 x8 x9 true x11 x12 x13 (wrap64 (x14 + 1)) x27 x28 x314000 x314001 x314002 x314003) else (if 0 ≤ (wrap64 ((wrap64 (x17 * x3)) + x16)) then (if (wrap64 ((wrap64 (x17 * x3)) + x16)) < (x5.length : Int) then (if (rdOf false x5 (wrap64 ((wrap64 (x17 * x3)) + x16)) = true) then (spec_liRegions.l2 k x3 x4 x5 x6 x8 x9 x10 x11 x12 x13 (wrap64 (x14 + 1)) x27 x28 x314000 x314001 x314002 x314003) else (if x8.length < 17592186044416 then (spec_liRegions.l2 k x3 x4 (x5.set ((wrap64 ((wrap64 (x17 * x3)) + x16)) : Int).toNat true) x6 (x8 ++ [wrap64 ((wrap64 (x17 * x3)) + x16)]) x9 x10 x11 x12 x13 (wrap64 (x14 + 1)) x27 x28 x314000 x314001 x314002 x314003) else (none))) else (none)) else (none))
end
def spec_liRegions.f (k : Nat) (a0_0 : Int) (a0_1 : Int) (l0_2 : List Int) (l0_3 : List Int) : Option ((List (List Int))) := if 0 ≤ (wrap64 (a0_0 * a0_1)) then (if (wrap64 (a0_0 * a0_1) : Int).toNat ≤ 281474976710656 then ((some (List.replicate (wrap64 (a0_0 * a0_1) : Int).toNat false : List Bool)).bind fun y314 => (spec_liRegions.l0 k a0_0 a0_1 y314 ([] : List (List Int)) (y314.length : Int) 0 a0_0 a0_1 l0_2 l0_3)) else (none)) else (none)
theorem spec_liRegions.mono_l : ∀ k, (∀ y0 y1 y2 y3 y4 y5 y6 y7 y8 y9, LeO (spec_liRegions.l0 k y0 y1 y2 y3 y4 y5 y6 y7 y8 y9) (spec_liRegions.l0 (k + 1) y0 y1 y2 y3 y4 y5 y6 y7 y8 y9)) ∧ (∀ y0 y1 y2 y3 y4 y5 y6 y7 y8 y9 y10 y11 y12 y13, LeO (spec_liRegions.l1 k y0 y1 y2 y3 y4 y5 y6 y7 y8 y9 y10 y11 y12 y13) (spec_liRegions.l1 (k + 1) y0 y1 y2 y3 y4 y5 y6 y7 y8 y9 y10 y11 y12 y13)) ∧ (∀ y0 y1 y2 y3 y4 y5 y6 y7 y8 y9 y10 y11 y12 y13 y14 y15 y16, LeO (spec_liRegions.l2 k y0 y1 y2 y3 y4 y5 y6 y7 y8 y9 y10 y11 y12 y13 y14 y15 y16) (spec_liRegions.l2 (k + 1) y0 y1 y2 y3 y4 y5 y6 y7 y8 y9 y10 y11 y12 y13 y14 y15 y16)) ∧ (∀ y0 y1 y2 y3 y4 y5 y6 y7 y8 y9 y10 y11 y12 y13 y14 y15 y16 y17 y18 y19, LeO (spec_liRegions.j3 k y0 y1 y2 y3 y4 y5 y6 y7 y8 y9 y10 y11 y12 y13 y14 y15 y16 y17 y18 y19) (spec_liRegions.j3 (k + 1) y0 y1 y2 y3 y4 y5 y6 y7 y8 y9 y10 y11 y12 y13 y14 y15 y16 y17 y18 y19))
 | 0 => ⟨fun _ _ _ _ _ _ _ _ _ _ r h => by simp [spec_liRegions.l0] at h, fun _ _ _ _ _ _ _ _ _ _ _ _ _ _ r h => by simp [spec_liRegions.l1] at h, fun _ _ _ _ _ _ _ _ _ _ _ _ _ _ _ _ _ r h => by simp [spec_liRegions.l2] at h, fun _ _ _ _ _ _ _ _ _ _ _ _ _ _ _ _ _ _ _ _ r h => by simp [spec_liRegions.j3] at h⟩
 | k + 1 => by
  obtain ⟨ih0, ih1, ih2, ih3⟩ := spec_liRegions.mono_l k
  refine ⟨?_, ?_, ?_, ?_⟩
  ·intro y0 y1 y2 y3 y4 y5 y6 y7 y8 y9
   unfold spec_liRegions.l0
   repeat' first
   | (with_reducible exact ih0 _ _ _ _ _ _ _ _ _ _)
   | (with_reducible exact ih1 _ _ _ _ _ _ _ _ _ _ _ _ _ _)
   | (with_reducible exact ih2 _ _ _ _ _ _ _ _ _ _ _ _ _ _ _ _ _)
   | (with_reducible exact ih3 _ _ _ _ _ _ _ _ _ _ _ _ _ _ _ _ _ _ _ _)
   | (with_reducible exact spec_fiHas.mono _ _ _ _ _ _ _ _)
   | (with_reducible exact spec_l1Put.mono _ _ _)
   | (with_reducible exact LeO.refl _)
   | (with_reducible exact LeO.none _)
   | (with_reducible refine LeO.ite ?_ ?_)
   | (with_reducible refine LeO.bind ?_ (fun _ => ?_))
   | exact ih0 _ _ _ _ _ _ _ _ _ _
   | exact ih1 _ _ _ _ _ _ _ _ _ _ _ _ _ _
   | exact ih2 _ _ _ _ _ _ _ _ _ _ _ _ _ _ _ _ _
   | exact ih3 _ _ _ _ _ _ _ _ _ _ _ _ _ _ _ _ _ _ _ _
   | exact spec_fiHas.mono _ _ _ _ _ _ _ _
   | exact spec_l1Put.mono _ _ _
   | exact LeO.none _
   | refine LeO.ite ?_ ?_
   | refine LeO.bind ?_ (fun _ => ?_)
  ·intro y0 y1 y2 y3 y4 y5 y6 y7 y8 y9 y10 y11 y12 y13
   unfold spec_liRegions.l1
   repeat' first
   | (with_reducible exact ih0 _ _ _ _ _ _ _ _ _ _)
   | (with_reducible exact ih1 _ _ _ _ _ _ _ _ _ _ _ _ _ _)
   | (with_reducible exact ih2 _ _ _ _ _ _ _ _ _ _ _ _ _ _ _ _ _)
   | (with_reducible exact ih3 _ _ _ _ _ _ _ _ _ _ _ _ _ _ _ _ _ _ _ _)
   | (with_reducible exact spec_fiHas.mono _ _ _ _ _ _ _ _)
   | (with_reducible exact spec_l1Put.mono _ _ _)
   | (with_reducible exact LeO.refl _)
   | (with_reducible exact LeO.none _)
   | (with_reducible refine LeO.ite ?_ ?_)
   | (with_reducible refine LeO.bind ?_ (fun _ => ?_))
   | exact ih0 _ _ _ _ _ _ _ _ _ _
   | exact ih1 _ _ _ _ _ _ _ _ _ _ _ _ _ _
   | exact ih2 _ _ _ _ _ _ _ _ _ _ _ _ _ _ _ _ _
   | exact ih3 _ _ _ _ _ _ _ _ _ _ _ _ _ _ _ _ _ _ _ _
   | exact spec_fiHas.mono _ _ _ _ _ _ _ _
   | exact spec_l1Put.mono _ _ _
   | exact LeO.none _
   | refine LeO.ite ?_ ?_
   | refine LeO.bind ?_ (fun _ => ?_)
  ·intro y0 y1 y2 y3 y4 y5 y6 y7 y8 y9 y10 y11 y12 y13 y14 y15 y16
   unfold spec_liRegions.l2
   repeat' first
   | (with_reducible exact ih0 _ _ _ _ _ _ _ _ _ _)
   | (with_reducible exact ih1 _ _ _ _ _ _ _ _ _ _ _ _ _ _)
   | (with_reducible exact ih2 _ _ _ _ _ _ _ _ _ _ _ _ _ _ _ _ _)
   | (with_reducible exact ih3 _ _ _ _ _ _ _ _ _ _ _ _ _ _ _ _ _ _ _ _)
   | (with_reducible exact spec_fiHas.mono _ _ _ _ _ _ _ _)
   | (with_reducible exact spec_l1Put.mono _ _ _)
   | (with_reducible exact LeO.refl _)
   | (with_reducible exact LeO.none _)
   | (with_reducible refine LeO.ite ?_ ?_)
   | (with_reducible refine LeO.bind ?_ (fun _ => ?_))
   | exact ih0 _ _ _ _ _ _ _ _ _ _
   | exact ih1 _ _ _ _ _ _ _ _ _ _ _ _ _ _
   | exact ih2 _ _ _ _ _ _ _ _ _ _ _ _ _ _ _ _ _
   | exact ih3 _ _ _ _ _ _ _ _ _ _ _ _ _ _ _ _ _ _ _ _
   | exact spec_fiHas.mono _ _ _ _ _ _ _ _
   | exact spec_l1Put.mono _ _ _
   | exact LeO.none _
   | refine LeO.ite ?_ ?_
   | refine LeO.bind ?_ (fun _ => ?_)
  ·intro y0 y1 y2 y3 y4 y5 y6 y7 y8 y9 y10 y11 y12 y13 y14 y15 y16 y17 y18 y19
   unfold spec_liRegions.j3
   repeat' first
   | (with_reducible exact ih0 _ _ _ _ _ _ _ _ _ _)
   | (with_reducible exact ih1 _ _ _ _ _ _ _ _ _ _ _ _ _ _)
   | (with_reducible exact ih2 _ _ _ _ _ _ _ _ _ _ _ _ _ _ _ _ _)
   | (with_reducible exact ih3 _ _ _ _ _ _ _ _ _ _ _ _ _ _ _ _ _ _ _ _)
   | (with_reducible exact spec_fiHas.mono _ _ _ _ _ _ _ _)
   | (with_reducible exact spec_l1Put.mono _ _ _)
   | (with_reducible exact LeO.refl _)
   | (with_reducible exact LeO.none _)
   | (with_reducible refine LeO.ite ?_ ?_)
   | (with_reducible refine LeO.bind ?_ (fun _ => ?_))
   | exact ih0 _ _ _ _ _ _ _ _ _ _
   | exact ih1 _ _ _ _ _ _ _ _ _ _ _ _ _ _
   | exact ih2 _ _ _ _ _ _ _ _ _ _ _ _ _ _ _ _ _
   | exact ih3 _ _ _ _ _ _ _ _ _ _ _ _ _ _ _ _ _ _ _ _
   | exact spec_fiHas.mono _ _ _ _ _ _ _ _
   | exact spec_l1Put.mono _ _ _
   | exact LeO.none _
   | refine LeO.ite ?_ ?_
   | refine LeO.bind ?_ (fun _ => ?_)
theorem spec_liRegions.mono : ∀ a0 a1 a2 a3 k, LeO (spec_liRegions.f k a0 a1 a2 a3) (spec_liRegions.f (k + 1) a0 a1 a2 a3) := by
 intro a0 a1 a2 a3 k
 obtain ⟨ih0, ih1, ih2, ih3⟩ := spec_liRegions.mono_l k
 unfold spec_liRegions.f
 repeat' first
   | (with_reducible exact ih0 _ _ _ _ _ _ _ _ _ _)
   | (with_reducible exact ih1 _ _ _ _ _ _ _ _ _ _ _ _ _ _)
   | (with_reducible exact ih2 _ _ _ _ _ _ _ _ _ _ _ _ _ _ _ _ _)
   | (with_reducible exact ih3 _ _ _ _ _ _ _ _ _ _ _ _ _ _ _ _ _ _ _ _)
   | (with_reducible exact spec_fiHas.mono _ _ _ _ _ _ _ _)
   | (with_reducible exact spec_l1Put.mono _ _ _)
   | (with_reducible exact LeO.refl _)
   | (with_reducible exact LeO.none _)
   | (with_reducible refine LeO.ite ?_ ?_)
   | (with_reducible refine LeO.bind ?_ (fun _ => ?_))
   | exact ih0 _ _ _ _ _ _ _ _ _ _
   | exact ih1 _ _ _ _ _ _ _ _ _ _ _ _ _ _
   | exact ih2 _ _ _ _ _ _ _ _ _ _ _ _ _ _ _ _ _
   | exact ih3 _ _ _ _ _ _ _ _ _ _ _ _ _ _ _ _ _ _ _ _
   | exact spec_fiHas.mono _ _ _ _ _ _ _ _
   | exact spec_l1Put.mono _ _ _
   | exact LeO.none _
   | refine LeO.ite ?_ ?_
   | refine LeO.bind ?_ (fun _ => ?_)
def spec_liRegions.T15 : Bool × List (List Nat × List Nat) := (true, [([], []), ([], []), ([0, 1], [0, 1]), ([2], [2]), ([], []), ([3, 4], [3, 4]), ([], []), ([], []), ([6, 7], [6, 7]), ([8], [8]), ([], []), ([9, 10], [9, 10]), ([5, 0, 1, 2, 3, 4, 5], [5]), ([11, 12, 0, 1, 2, 3, 4, 5, 6, 7, 8, 9, 10, 11, 12], [11])])
def spec_liRegions.B15 : List Nat := [0, 0, 3, 7, 0, 31, 0, 0, 192, 448, 0, 1984, 63, 8191]
theorem spec_liRegions.tab15 : rtab .any (opsOf Try.f46 15) = spec_liRegions.T15 := by kernel_rfl
theorem spec_liRegions.bits15 : waitsOk spec_liRegions.T15.2 spec_liRegions.B15 = true := by kernel_rfl
def spec_liRegions.T20 : Bool × List (List Nat × List Nat) := (true, [([], []), ([], []), ([], []), ([0, 1, 2], [0, 1, 2]), ([], []), ([], []), ([5], [5]), ([], []), ([4, 6, 7, 3], [4, 6, 7]), ([], []), ([], []), ([], []), ([11], [11]), ([9, 10, 12, 8], [9, 10, 12]), ([], []), ([], []), ([], []), ([14, 15, 16, 13], [14, 15, 16]), ([3, 8, 13, 17], [3, 8, 13, 17]), ([], []), ([18, 19], [18, 19]), ([20], [20]), ([21, 17, 0, 1, 2, 3, 4, 5, 6, 7, 8, 9, 10, 11, 12, 13, 14, 15, 16, 17, 18, 19, 20, 21], [21])])
def spec_liRegions.B20 : List Nat := [0, 0, 0, 7, 0, 0, 32, 0, 255, 0, 0, 0, 2048, 8191, 0, 0, 0, 131071, 262143, 0, 1048575, 2097151, 4194303]
theorem spec_liRegions.tab20 : rtab .any (opsOf Try.f46 20) = spec_liRegions.T20 := by kernel_rfl
theorem spec_liRegions.bits20 : waitsOk spec_liRegions.T20.2 spec_liRegions.B20 = true := by kernel_rfl
def spec_liRegions.T21 : Bool × List (List Nat × List Nat) := (true, [([], []), ([], []), ([], []), ([1, 2], [1, 2]), ([3], [3]), ([0, 4], [0, 4]), ([], []), ([], []), ([], []), ([7, 8], [7, 8]), ([9], [9]), ([6, 10], [6, 10]), ([5, 0, 1, 2, 3, 4, 5], [5]), ([11, 12, 0, 1, 2, 3, 4, 5, 6, 7, 8, 9, 10, 11, 12], [11])])
def spec_liRegions.B21 : List Nat := [0, 0, 0, 6, 14, 31, 0, 0, 0, 384, 896, 1984, 63, 8191]
theorem spec_liRegions.tab21 : rtab .any (opsOf Try.f46 21) = spec_liRegions.T21 := by kernel_rfl
theorem spec_liRegions.bits21 : waitsOk spec_liRegions.T21.2 spec_liRegions.B21 = true := by kernel_rfl
set_option maxHeartbeats 8000000 in
set_option maxRecDepth 100000 in
theorem spec_liRegions.calls (k : Nat) (a0_0 : Int) (a0_1 : Int) (A0_2 : Option Addr) (c0_2 : Nat) (l0_2 : List Int) (A0_3 : Option Addr) (c0_3 : Nat) (l0_3 : List Int) (r : List (List Int)) (w : World) (hr0_2 : Kd.C (Kd.int .i64) w A0_2 l0_2.length l0_2) (hc0_2 : l0_2.length ≤ c0_2) (hr0_3 : Kd.C (Kd.int .i64) w A0_3 l0_3.length l0_3) (hc0_3 : l0_3.length ≤ c0_3) (h : spec_liRegions.f k a0_0 a0_1 l0_2 l0_3 = some r) :
  Calls Try.prog 46 #[.agg #[.int .i64 a0_0, .int .i64 a0_1, .slice A0_2 l0_2.length c0_2, .slice A0_3 l0_3.length c0_3]] w fun e w' => ∃ v0_ : Value, e = .returned (v0_) ∧ Kd.S (Kd.slice 3 (Kd.int .i64)) 22 w' w.heap.size (fun _ => True) v0_ r ∧ Below w.heap.size w w' := by
 have hu28 := Try.underlying28
 have HR0_2 := Aside0.mk hr0_2
 have HC0_2 := Aside0.mk hc0_2
 clear hr0_2 hc0_2
 have HR0_3 := Aside0.mk hr0_3
 have HC0_3 := Aside0.mk hc0_3
 clear hr0_3 hc0_3
 have HB := Aside0.mk (Below.refl w.heap.size w)
 have H : (if 0 ≤ (wrap64 (a0_0 * a0_1)) then (if (wrap64 (a0_0 * a0_1) : Int).toNat ≤ 281474976710656 then ((some (List.replicate (wrap64 (a0_0 * a0_1) : Int).toNat false : List Bool)).bind fun y314 => (spec_liRegions.l0 k a0_0 a0_1 y314 ([] : List (List Int)) (y314.length : Int) 0 a0_0 a0_1 l0_2 l0_3)) else (none)) else (none)) = some r := h
 clear h
 obtain ⟨ji2, hji2⟩ : ∃ j_ : Int, (wrap64 (a0_0 * a0_1)) = j_ := ⟨_, rfl⟩
 replace H : (if 0 ≤ (ji2) then (if (ji2 : Int).toNat ≤ 281474976710656 then ((some (List.replicate (ji2 : Int).toNat false : List Bool)).bind fun y314 => (spec_liRegions.l0 k a0_0 a0_1 y314 ([] : List (List Int)) (y314.length : Int) 0 a0_0 a0_1 l0_2 l0_3)) else (none)) else (none)) = some r := by first | (rw [hji2] at H; exact H) | (simp only [hji2] at H ⊢; exact H)
 have hji2w : (IntKind.i64.wrap (a0_0 * a0_1)) = ji2 := (i64_w _).trans hji2
 by_cases c3 : 0 ≤ (ji2)
 ·rw [if_pos c3] at H
  have c3b0 := eq_true c3
  have c3b1 : decide (0 ≤ (ji2)) = true := decide_eq_true c3
  clear c3
  by_cases c4 : (ji2 : Int).toNat ≤ 281474976710656
  ·rw [if_pos c4] at H
   have c4b0 := eq_true c4
   have c4b1 : decide ((ji2 : Int).toNat ≤ 281474976710656) = true := decide_eq_true c4
   clear c4
   obtain ⟨y314, hy314⟩ : ∃ y_ : List Bool, y_ = (List.replicate (ji2 : Int).toNat false) := ⟨_, rfl⟩
   replace H : (spec_liRegions.l0 k a0_0 a0_1 y314 ([] : List (List Int)) (y314.length : Int) 0 a0_0 a0_1 l0_2 l0_3) = some r := by first | (rw [hy314]; with_reducible exact H) | (have H2_ := (Option.bind_some _ _).symm.trans H; rw [hy314]; with_reducible exact H2_) | (have H2_ := (Option.bind_some _ _).symm.trans H; with_reducible exact H2_) | with_reducible exact H | (rw [hy314]; exact H) | exact H
   have Ny314 := Aside0.mk hy314
   clear hy314
   have H' := Aside0.mk H
   clear H
   go_enter Try.func46, Try.ntmps46
   try go_wp2_with (first | ((with_reducible refine gate_dst (N := 1) rfl ?_); refine boxE_ (N := 1) (cs := #[.int .i64 a0_0, .int .i64 a0_1, .slice A0_2 l0_2.length c0_2, .slice A0_3 l0_3.length c0_3]) (t := 28) ?_; intro gb313 hg w5 hbox hb; have n0_ := Aside0.mk (below_step (bl0_ HB.out) hb); have n1_ := Aside0.mk (hbox); have n2_ := Aside0.mk ((bs0_ hg HB.out : w.heap.size ≤ gb313)); have n3_ := Aside0.mk ((bs0_ hg HB.out : w.heap.size ≤ gb313)); clear HB; have HB := n0_; have BK313 := n1_; have GW313 := n2_; have GE313 := n3_; clear n0_ n1_ n2_ n3_; clear hb hbox hg))
   have n0_ := Aside0.mk (blk_drew BK313.out)
   have n1_ := Aside0.mk (below_drew1 HB.out)
   clear BK313
   clear HB
   have BK313 := n0_
   have HB := n1_
   clear n0_ n1_
   refine start_ (n := 6) (S := fun w' => w'.cell? ⟨gb313, 0, none⟩ = some (.int .i64 a0_0) ∧ w'.cell? ⟨gb313, 1, none⟩ = some (.int .i64 a0_1) ∧ w'.cell? ⟨gb313, 2, none⟩ = some (.slice A0_2 l0_2.length c0_2) ∧ w'.cell? ⟨gb313, 3, none⟩ = some (.slice A0_3 l0_3.length c0_3)) (ds := []) #[Ff, Ff, Ff, Ff, Ff, Ff] (by kernel_rfl) rfl rfl ⟨(blk_cell BK313.out 0).trans rfl, (blk_cell BK313.out 1).trans rfl, (blk_cell BK313.out 2).trans rfl, (blk_cell BK313.out 3).trans rfl⟩ (fun hHeld => ?_)
   generalize w5.drew = w6 at BK313 HB hHeld ⊢
   refine pure_ (i := 0) (N := some 18) (v := ?_) (a' := ?_) #[Tt, Ff, Ff, Ff, Ff, Ff] rfl rfl (by kernel_rfl) (fun _ _ _ h => h) (Or.inl ⟨by rfl, ?_⟩) ?_ ?_
   rotate_left
   ·intro w'
    go_simp
    with_reducible rfl
   rotate_left
   ·simp only [Act.put, List.setIfInBounds_toArray, List.set_cons_zero, List.set_cons_succ, i64_w, i32_w]
    rfl
   refine pure_ (i := 2) (N := some 20) (v := ?_) (a' := ?_) #[Tt, Ff, Tt, Ff, Ff, Ff] rfl rfl (by kernel_rfl) (fun _ _ _ h => h) (Or.inl ⟨by rfl, ?_⟩) ?_ ?_
   rotate_left
   ·intro w'
    go_simp
    with_reducible rfl
   rotate_left
   ·simp only [Act.put, List.setIfInBounds_toArray, List.set_cons_zero, List.set_cons_succ, i64_w, i32_w]
    rfl
   refine take_ (i := 1) (N := some 19) (v := ?_) (a' := ?_) #[Tt, Tt, Tt, Ff, Ff, Ff] rfl rfl (by kernel_rfl) (fun _ _ _ h => h) (Or.inl ⟨by rfl, ?_⟩) hHeld ?_ ?_
   rotate_left
   ·rintro w' ⟨s0, s1, s2, s3⟩
    go_simp
    with_reducible rfl
   rotate_left
   ·simp only [Act.put, List.setIfInBounds_toArray, List.set_cons_zero, List.set_cons_succ, i64_w, i32_w]
    rfl
   refine pure_ (i := 4) (N := some 3) (v := ?_) (a' := ?_) #[Tt, Tt, Tt, Ff, Tt, Ff] rfl rfl (by kernel_rfl) (fun _ _ _ h => h) (Or.inl ⟨by rfl, ?_⟩) ?_ ?_
   rotate_left
   ·intro w'
    go_simp
    with_reducible rfl
   rotate_left
   ·simp only [Act.put, List.setIfInBounds_toArray, List.set_cons_zero, List.set_cons_succ, i64_w, i32_w]
    rfl
   refine take_ (i := 3) (N := some 21) (v := ?_) (a' := ?_) #[Tt, Tt, Tt, Tt, Tt, Ff] rfl rfl (by kernel_rfl) (fun _ _ _ h => h) (Or.inl ⟨by rfl, ?_⟩) hHeld ?_ ?_
   rotate_left
   ·rintro w' ⟨s0, s1, s2, s3⟩
    go_simp
    with_reducible rfl
   rotate_left
   ·simp only [Act.put, List.setIfInBounds_toArray, List.set_cons_zero, List.set_cons_succ, i64_w, i32_w]
    rfl
   refine pure_ (i := 5) (N := some 4) (v := ?_) (a' := ?_) #[Tt, Tt, Tt, Tt, Tt, Tt] rfl rfl (by kernel_rfl) (fun _ _ _ h => h) (Or.inl ⟨by rfl, ?_⟩) ?_ ?_
   rotate_left
   ·intro w'
    go_simp
    with_reducible rfl
   rotate_left
   ·simp only [Act.put, List.setIfInBounds_toArray, List.set_cons_zero, List.set_cons_succ, i64_w, i32_w]
    rfl
   refine done_ (by kernel_rfl) ?_
   try go_wp2_with (first | ((with_reducible refine gate_dst (N := 25) rfl ?_); refine Kd.R_make Kd.bool _ 4 rfl (N := 25) rfl 112 _ _ rfl ji2 rfl rfl Try.underlying112 (.bool false) 1 info4 rfl (by decide) (by omega) false (ok := fun _ => True) (okp := fun _ => True) rfl (fun _ hk => hk) trivial (of_decide_eq_true as_) (Nat.le_trans (Nat.mul_le_mul_right _ (of_decide_eq_true as_ : ji2.toNat ≤ 281474976710656)) (by omega)) (Below.refl _ _) (Nat.le_refl _) ?_; intro v315 w7 ho8 hb hg_ hnew_; clear hg_ hnew_; (first | rw [← Ny314.out] at ho8 | (simp only [Int.reduceToNat] at ho8; rw [← Ny314.out] at ho8)); have n0_ := Aside0.mk (Kd.R_lower ho8 (below_size (bl1_ HB.out GE313.out))); have n1_ := Aside0.mk (bb_ BK313.out hb); have n2_ := Aside0.mk (below_step (bl1_ HB.out GE313.out) hb); clear BK313; clear HB; have HO316 := n0_; have BK313 := n1_; have HB := n2_; clear n0_ n1_ n2_; clear hb ho8; obtain ⟨Ao9, co9, eo9⟩ := Kd.R_slice HO316.out; subst eo9))
   go_loopg [6, 28] k (fun kq v6 v28 w' => ∃ (x5_1 : List Bool) (x6_1 : List (List Int)) (x28_1 : Int), v28 = .int .i64 x28_1 ∧ Aside0 (spec_liRegions.l0 kq a0_0 a0_1 x5_1 x6_1 (y314.length : Int) x28_1 a0_0 a0_1 l0_2 l0_3 = some r) ∧ Aside0 (kq ≤ k) ∧ Aside0 (Kd.R Kd.bool 4 w' w.heap.size (fun _ => True) (.slice Ao9 y314.length co9) x5_1) ∧ Aside0 (Kd.S (Kd.slice 3 (Kd.int .i64)) 22 w' w.heap.size (fun _ => True) v6 x6_1) ∧ Aside0 (w'.heap[gb313]? = some (.cells #[.int .i64 a0_0, .int .i64 a0_1, (.slice A0_2 l0_2.length c0_2), (.slice A0_3 l0_3.length c0_3)] 28 (0, 0))) ∧ Aside0 (Below w.heap.size w w'))
   case atStart => exact ⟨(y314), (([] : List (List Int))), (0), rs_, H', ⟨Nat.le_refl _⟩, ⟨kr_ HO316.out⟩, ⟨by first | exact Kd.S_nil _ _ _ _ _ | exact Kd.N_nil _ _ _ _ _ | exact Kd.V_nil _ _ _ _ _ | exact Kd.Q_nil _ _ _ _ _ | exact Kd.R_nil _ _ _ _ _⟩, ⟨bk_ BK313.out⟩, ⟨bl1_ HB.out GE313.out⟩⟩
   case round =>
    clear H'
    try clear p2
    try clear c3
    try clear c3b0
    try clear c3b1
    try clear c4
    try clear c4b0
    try clear c4b1
    try clear p6
    obtain ⟨x5_1, x6_1, x28_1, rfl, HA, HK1, HO_5, HO_6, BK313, HB⟩ := hrel
    have hl5_1 := (Kd.R_reads' HO_5.out).1
    rw [hl5_1] at HO_5
    (try simp only [hl5_1])
    (try simp only [hl5_1] at BK313)
    (try simp only [hl5_1] at HO_6)
    cases gk with
    | zero => exact absurd HA.out (by simp [spec_liRegions.l0])
    | succ k1 =>
     have H := HA.out
     clear HA
     simp only [spec_liRegions.l0] at H
     by_cases c10 : x28_1 < (y314.length : Int)
     ·rw [if_pos c10] at H
      have c10b0 : decide (x28_1 < (y314.length : Int)) = true := decide_eq_true c10
      clear c10
      by_cases c11 : 0 ≤ x28_1
      ·rw [if_pos c11] at H
       have c11b0 : decide (0 ≤ x28_1) = true := decide_eq_true c11
       clear c11
       by_cases c12 : x28_1 < (x5_1.length : Int)
       ·rw [if_pos c12] at H
        have c12b0 : decide (x28_1 < (x5_1.length : Int)) = true := decide_eq_true c12
        clear c12
        obtain ⟨bq13, hbq13⟩ : ∃ b_ : Bool, b_ = (rdOf false x5_1 x28_1) := ⟨_, rfl⟩
        replace H : (if bq13 = true then (spec_liRegions.l0 k1 a0_0 a0_1 x5_1 x6_1 (y314.length : Int) (wrap64 (x28_1 + 1)) a0_0 a0_1 l0_2 l0_3) else (spec_liRegions.l1 k1 a0_0 a0_1 (x5_1.set (x28_1 : Int).toNat true) x6_1 (([x28_1] : List Int)) ([] : List Int) false 0 (y314.length : Int) x28_1 a0_0 a0_1 l0_2 l0_3)) = some r := by rw [← hbq13] at H; exact H
        have Nbq13 := Aside0.mk hbq13
        clear hbq13
        by_cases c14 : bq13 = true
        ·subst c14
         have H1 : (spec_liRegions.l0 k1 a0_0 a0_1 x5_1 x6_1 (y314.length : Int) (wrap64 (x28_1 + 1)) a0_0 a0_1 l0_2 l0_3) = some r := by rw [if_pos rfl] at H; exact H
         clear H
         have H := H1
         clear H1
         have H' := Aside0.mk H
         clear H
         have p317 : 0 ≤ (x28_1 : Int) := of_decide_eq_true as_
         have q317 : x28_1 < (x5_1.length : Int) := of_decide_eq_true as_
         obtain ⟨ad317, e317, hx317_0⟩ := Kd.at_bool (Kd.R_reads' HO_5.out).2.2 x28_1 p317 q317
         (try rw [← Nbq13.out] at hx317_0)
         cases e317
         replace p317 := eq_true p317
         replace q317 := eq_true q317
         go_wp2
         (try simp only [← hl5_1])
         go_roundg k1
         case measure => have := HK1.out; omega
         case rel => exact ⟨(x5_1), (x6_1), (wrap64 (x28_1 + 1)), rs_, H', ⟨by have := HK1.out; omega⟩, ⟨by (try simp only [hl5_1]); (with_reducible repeat (first | apply Kd.R_alloc | apply Kd.R_drewN | apply Kd.R_drew)); exact HO_5.out⟩, ⟨by (try simp only [hl5_1]); (with_reducible repeat (first | apply Kd.S_alloc | apply Kd.S_drewN | apply Kd.S_drew)); exact HO_6.out⟩, ⟨by (try simp only [hl5_1]); (with_reducible repeat (first | refine blk_drewN ?_ _ | refine blk_drew ?_ | refine blk_alloc ?_ _)); exact BK313.out⟩, ⟨bl1_ HB.out GE313.out⟩⟩
        ·replace c14 := Bool.eq_false_iff.mpr c14
         subst c14
         have H1 : (spec_liRegions.l1 k1 a0_0 a0_1 (x5_1.set (x28_1 : Int).toNat true) x6_1 (([x28_1] : List Int)) ([] : List Int) false 0 (y314.length : Int) x28_1 a0_0 a0_1 l0_2 l0_3) = some r := by rw [if_neg (show ¬ (false = true) by decide)] at H; exact H
         clear H
         have H := H1
         clear H1
         obtain ⟨y318, hy318⟩ : ∃ y_ : List Bool, y_ = (x5_1.set (x28_1 : Int).toNat true) := ⟨_, rfl⟩
         replace H : (spec_liRegions.l1 k1 a0_0 a0_1 y318 x6_1 (([x28_1] : List Int)) ([] : List Int) false 0 (y314.length : Int) x28_1 a0_0 a0_1 l0_2 l0_3) = some r := by first | (rw [hy318]; with_reducible exact H) | (have H2_ := (Option.bind_some _ _).symm.trans H; rw [hy318]; with_reducible exact H2_) | (have H2_ := (Option.bind_some _ _).symm.trans H; with_reducible exact H2_) | with_reducible exact H | (rw [hy318]; exact H) | exact H
         have Ny318 := Aside0.mk hy318
         clear hy318
         obtain ⟨y319, hy319⟩ : ∃ y_ : List Int, y_ = (([x28_1] : List Int)) := ⟨_, rfl⟩
         replace H : (spec_liRegions.l1 k1 a0_0 a0_1 y318 x6_1 y319 ([] : List Int) false 0 (y314.length : Int) x28_1 a0_0 a0_1 l0_2 l0_3) = some r := by first | (rw [hy319]; with_reducible exact H) | (have H2_ := (Option.bind_some _ _).symm.trans H; rw [hy319]; with_reducible exact H2_) | (have H2_ := (Option.bind_some _ _).symm.trans H; with_reducible exact H2_) | with_reducible exact H | (rw [hy319]; exact H) | exact H
         have Ny319 := Aside0.mk hy319
         clear hy319
         have H' := Aside0.mk H
         clear H
         have p317 : 0 ≤ (x28_1 : Int) := of_decide_eq_true as_
         have q317 : x28_1 < (x5_1.length : Int) := of_decide_eq_true as_
         obtain ⟨ad317, e317, hx317_0⟩ := Kd.at_bool (Kd.R_reads' HO_5.out).2.2 x28_1 p317 q317
         (try rw [← Nbq13.out] at hx317_0)
         cases e317
         replace p317 := eq_true p317
         replace q317 := eq_true q317
         have p15 : 0 ≤ (x28_1 : Int) := of_decide_eq_true as_
         have q15 : (x28_1 : Int) < ((x5_1.length : Int) : Int) := of_decide_eq_true as_
         obtain ⟨go15, co15, eo15, gb15, gl15, cl15, HG15⟩ := Kd.R_form HO_5.out (by omega)
         (first | cases eo15 | (injection eo15 with ea_ en_ ec_; (first | subst ea_ | (injection ea_ with ea_; subst ea_)); subst ec_; clear en_))
         have GB15 := Aside0.mk gb15
         have GG15 := Aside0.mk HG15
         clear gb15 gl15 HG15
         (first | simp only [add_plain] at hx317_0 | skip)
         obtain ⟨hx15_0, hf15_0⟩ := Kd.R_celln false HO_5.out (x28_1 : Int) p15 q15
         replace p15 := eq_true p15
         replace q15 := eq_true q15
         have HP16 := Kd.R_putg HO_5.out (x28_1 : Int) true
         go_wp2_with (first | ((with_reducible refine gate_store (t := 4) (p := 37) rfl ?_); refine store_event (t := 4) (p := 37) (v := ?vo_w17) (w1 := (wr.setCell ⟨go15, (x28_1 : Int).toNat, none⟩ (.bool true))) ?hg ?ho ?hn ?hr ?_; (case ho => rfl); (case hg => rfl); (case hn => rfl); (case hr => first | (go_simp; done) | (go_simp; rfl)); intro w17 hw; have hg : wr.grownBy w17 (some go15) := (by rw [hw]; exact HP16.2); have hp_ : Kd.R Kd.bool 4 w17 w.heap.size (fun _ => True) (.slice (some ⟨go15, 0, none⟩) x5_1.length co9) y318 := (by rw [hw, Ny318.out]; exact HP16.1); clear HP16; have n0_ := Aside0.mk (hp_); have n1_ := Aside0.mk (Kd.S_over' (v := (.slice (some ⟨go15, 0, none⟩) x5_1.length co9)) (by (with_reducible repeat (first | apply Kd.S_alloc | apply Kd.S_drewN | apply Kd.S_drew)); exact HO_6.out) (Kd.R_typed HO_5.out) (by decide) hg); have n2_ := Aside0.mk (blk_grown (g := gb313) (o := .cells #[.int .i64 a0_0, .int .i64 a0_1, .slice A0_2 l0_2.length c0_2, .slice A0_3 l0_3.length c0_3] 28 (0, 0)) (bk_ BK313.out) hg (Kd.R_ne HO_5.out BK313.out (by decide))); have n3_ := Aside0.mk ((by rw [hw]; exact below_set (HB.out) GB15.out : Below w.heap.size w w17)); clear HO_5; clear HO_6; clear BK313; clear HB; have HO_5 := n0_; have HO_6 := n1_; have BK313 := n2_; have HB := n3_; clear n0_ n1_ n2_ n3_; clear hg hw hp_) | ((with_reducible refine gate_dst (N := 39) rfl ?_); refine Kd.R_lit (Kd.int .i64) _ 3 ?hg (N := 39) ?hd (xs := ([x28_1] : List Int)) (inner := [.int .i64 x28_1]) (ok := fun _ => True) (okp := fun _ => True) ?hr ?hp (fun _ hk => hk) trivial (Below.refl _ _) (Nat.le_refl _) (by simp) ?_; (case hd => rfl); (case hg => rfl); (case hr => first | (go_simp; done) | (go_simp; rfl)); (case hp => exact (Reps.one (show Kd.M (Kd.int .i64) _ _ _ x28_1 [.int .i64 x28_1] from rfl) (Reps.none _ _))); intro v320 w18 ho19 hb hg_ hnew_; clear hg_ hnew_; (first | rw [← Ny319.out] at ho19 | (simp only [Int.reduceToNat] at ho19; rw [← Ny319.out] at ho19)); have n0_ := Aside0.mk (Kd.R_below (kr_ HO_5.out) hb); have n1_ := Aside0.mk (Kd.S_elder' (by (with_reducible repeat (first | apply Kd.S_alloc | apply Kd.S_drewN | apply Kd.S_drew)); exact HO_6.out) (Kd.R_base ho19) hb); have n2_ := Aside0.mk (Kd.R_lower ho19 (below_size (bl1_ HB.out GE313.out))); have n3_ := Aside0.mk (bb_ BK313.out hb); have n4_ := Aside0.mk (below_step (bl1_ HB.out GE313.out) hb); clear HO_5; clear HO_6; clear BK313; clear HB; have HO_5 := n0_; have HO_6 := n1_; have HO321 := n2_; have BK313 := n3_; have HB := n4_; clear n0_ n1_ n2_ n3_ n4_; clear hb ho19))
         go_loopg [8, 9, 10, 11] k1 (fun kq v8 v9 v10 v11 w' => ∃ (x5_2 : List Bool) (x8_2 : List Int) (x9_2 : List Int) (x10_2 : Bool) (x11_2 : Int), v10 = .bool x10_2 ∧ v11 = .int .i64 x11_2 ∧ Aside0 (spec_liRegions.l1 kq a0_0 a0_1 x5_2 x6_1 x8_2 x9_2 x10_2 x11_2 (y314.length : Int) x28_1 a0_0 a0_1 l0_2 l0_3 = some r) ∧ Aside0 (kq ≤ k1) ∧ Aside0 (Kd.R Kd.bool 4 w' w.heap.size (fun _ => True) (.slice (some ⟨go15, 0, none⟩) x5_1.length co9) x5_2) ∧ Aside0 (Kd.S (Kd.slice 3 (Kd.int .i64)) 22 w' w.heap.size (fun k_ => some k_ ≠ (v8 : Value).ownBlock ∧ some k_ ≠ (v9 : Value).ownBlock) u6 x6_1) ∧ Aside0 (Kd.R (Kd.int .i64) 3 w' w.heap.size (fun k_ => some k_ ≠ (v9 : Value).ownBlock) v8 x8_2) ∧ Aside0 (Kd.R (Kd.int .i64) 3 w' w.heap.size (fun k_ => some k_ ≠ (v8 : Value).ownBlock) v9 x9_2) ∧ Aside0 (w'.heap[gb313]? = some (.cells #[.int .i64 a0_0, .int .i64 a0_1, (.slice A0_2 l0_2.length c0_2), (.slice A0_3 l0_3.length c0_3)] 28 (0, 0))) ∧ Aside0 (Below w.heap.size w w'))
         case atStart => exact ⟨(y318), (y319), (([] : List Int)), (false), (0), rs_, rs_, H', ⟨Nat.le_refl _⟩, ⟨by (try simp only [hl5_1]); (with_reducible repeat (first | apply Kd.R_alloc | apply Kd.R_drewN | apply Kd.R_drew)); exact HO_5.out⟩, ⟨by (try simp only [hl5_1]); (with_reducible repeat (first | apply Kd.S_alloc | apply Kd.S_drewN | apply Kd.S_drew)); exact Kd.S_mono HO_6.out (fun _ hk => ⟨hk.2, (by simp [Value.ownBlock])⟩)⟩, ⟨by (try simp only [hl5_1]); (with_reducible repeat (first | apply Kd.R_alloc | apply Kd.R_drewN | apply Kd.R_drew)); exact Kd.R_mono HO321.out (fun _ hk => (by simp [Value.ownBlock]))⟩, ⟨by (try simp only [hl5_1]); first | exact Kd.R_nil _ _ _ _ _ | exact Kd.N_nil _ _ _ _ _ | exact Kd.V_nil _ _ _ _ _ | exact Kd.Q_nil _ _ _ _ _ | exact Kd.S_nil _ _ _ _ _⟩, ⟨by (try simp only [hl5_1]); (with_reducible repeat (first | refine blk_drewN ?_ _ | refine blk_drew ?_ | refine blk_alloc ?_ _)); exact BK313.out⟩, ⟨bl1_ HB.out GE313.out⟩⟩
         case round =>
          clear H'
          try clear c1
          try clear p1
          try clear q1
          try clear hx1
          try clear hf1
          try clear p2
          try clear c3
          try clear c3b0
          try clear c3b1
          try clear p3
          try clear q3
          try clear hx3
          try clear c4
          try clear c4b0
          try clear c4b1
          try clear p6
          try clear c10
          try clear c10b0
          try clear c11
          try clear c11b0
          try clear c12
          try clear c12b0
          try clear q13
          try clear c14
          try clear p15
          try clear q15
          try clear hx15
          try clear hf15
          try clear hx15_0
          try clear hx317_0
          try clear p15
          try clear p2
          try clear p317
          try clear p6
          try clear q15
          try clear q317
          obtain ⟨x5_2, x8_2, x9_2, x10_2, x11_2, rfl, rfl, HA, HK2, HO_5, HO_6, HO_8, HO_9, BK313, HB⟩ := hrel
          have hl5_2 := (Kd.R_reads' HO_5.out).1
          rw [hl5_2] at HO_5
          (try simp only [hl5_2])
          (try simp only [hl5_2] at BK313)
          (try simp only [hl5_2] at HO_6)
          (try simp only [hl5_2] at HO_8)
          (try simp only [hl5_2] at HO_9)
          cases gk with
          | zero => exact absurd HA.out (by simp [spec_liRegions.l1])
          | succ k2 =>
           have H := HA.out
           clear HA
           simp only [spec_liRegions.l1] at H
           by_cases c20 : x11_2 < (x8_2.length : Int)
           ·rw [if_pos c20] at H
            have c20b0 : decide (x11_2 < (x8_2.length : Int)) = true := decide_eq_true c20
            clear c20
            by_cases c21 : 0 ≤ x11_2
            ·rw [if_pos c21] at H
             have c21b0 : decide (0 ≤ x11_2) = true := decide_eq_true c21
             clear c21
             by_cases c22 : a0_0 = 0
             ·rw [if_pos c22] at H
              exact absurd H (by simp)
             ·rw [if_neg c22] at H
              have c22b0 : (a0_0 == 0) = false := beq_eq_false_iff_ne.mpr c22
              have c22b1 : (a0_0 != 0) = true := bne_iff_ne.mpr c22
              replace H := Option.bind_eq_some_iff.mp H
              obtain ⟨t328, A230, H⟩ := H
              replace H : (spec_liRegions.l2 k2 a0_0 a0_1 x5_2 x6_1 x8_2 t328 x10_2 x11_2 (Int.tmod (rd x8_2 x11_2) a0_0) (wrap64 (Int.tdiv (rd x8_2 x11_2) a0_0)) 0 (y314.length : Int) x28_1 a0_0 a0_1 l0_2 l0_3) = some r := H
              have A23 := Aside0.mk A230
              clear A230
              have H' := Aside0.mk H
              clear H
              obtain ⟨Ao24, co24, eo24⟩ := Kd.R_slice HO_8.out
              subst eo24
              try go_wp2
              have n0_ := Aside0.mk (Kd.R_drew HO_5.out)
              have n1_ := Aside0.mk (Kd.S_drew HO_6.out)
              have n2_ := Aside0.mk (Kd.R_drew HO_8.out)
              have n3_ := Aside0.mk (Kd.R_drew HO_9.out)
              have n4_ := Aside0.mk (blk_drew BK313.out)
              have n5_ := Aside0.mk (below_drew1 HB.out)
              clear HO_5
              clear HO_6
              clear HO_8
              clear HO_9
              clear BK313
              clear HB
              have HO_5 := n0_
              have HO_6 := n1_
              have HO_8 := n2_
              have HO_9 := n3_
              have BK313 := n4_
              have HB := n5_
              clear n0_ n1_ n2_ n3_ n4_ n5_
              have p325 : 0 ≤ (x11_2 : Int) := of_decide_eq_true as_
              have q325 : x11_2 < (x8_2.length : Int) := of_decide_eq_true as_
              obtain ⟨ad325, e325, hx325_0⟩ := Kd.at_int (Kd.R_reads' HO_8.out).2.2 x11_2 p325 q325
              cases e325
              replace p325 := eq_true p325
              replace q325 := eq_true q325
              have p326 : 0 ≤ (x11_2 : Int) := of_decide_eq_true as_
              have q326 : x11_2 < (x8_2.length : Int) := of_decide_eq_true as_
              obtain ⟨ad326, e326, hx326_0⟩ := Kd.at_int (Kd.R_reads' HO_8.out).2.2 x11_2 p326 q326
              obtain rfl : ad325 = ad326 := (by injection e326)
              replace p326 := eq_true p326
              replace q326 := eq_true q326
              refine start_ (n := 14) (S := fun w' => w'.cell? (ad325.add (x11_2).toNat) = some (.int .i64 (rd x8_2 x11_2)) ∧ w'.cell? (ad325.add (x11_2).toNat) = some (.int .i64 (rd x8_2 x11_2))) (ds := []) #[Ff, Ff, Ff, Ff, Ff, Ff, Ff, Ff, Ff, Ff, Ff, Ff, Ff, Ff] (by kernel_rfl) rfl rfl ⟨hx325_0, hx326_0⟩ (fun hHeld => ?_); refine with_tabW spec_liRegions.tab15 spec_liRegions.bits15 (fun HT_ HW_ => ?_)
              generalize wr.drew = w25 at HO_5 HO_6 HO_8 HO_9 BK313 HB hx325_0 hx326_0 hHeld ⊢
              refine pZ (i := 0) (N := some 46) #[Tt, Ff, Ff, Ff, Ff, Ff, Ff, Ff, Ff, Ff, Ff, Ff, Ff, Ff] ?_
              refine pZ (i := 1) (N := some 47) #[Tt, Tt, Ff, Ff, Ff, Ff, Ff, Ff, Ff, Ff, Ff, Ff, Ff, Ff] ?_
              refine pZ (i := 2) (N := some 48) #[Tt, Tt, Tt, Ff, Ff, Ff, Ff, Ff, Ff, Ff, Ff, Ff, Ff, Ff] ?_
              refine pZ (i := 4) (N := some 50) #[Tt, Tt, Tt, Ff, Tt, Ff, Ff, Ff, Ff, Ff, Ff, Ff, Ff, Ff] ?_
              refine pZ (i := 6) (N := some 52) #[Tt, Tt, Tt, Ff, Tt, Ff, Tt, Ff, Ff, Ff, Ff, Ff, Ff, Ff] ?_
              refine pZ (i := 7) (N := some 53) #[Tt, Tt, Tt, Ff, Tt, Ff, Tt, Tt, Ff, Ff, Ff, Ff, Ff, Ff] ?_
              refine pZ (i := 8) (N := some 54) #[Tt, Tt, Tt, Ff, Tt, Ff, Tt, Tt, Tt, Ff, Ff, Ff, Ff, Ff] ?_
              refine pZ (i := 10) (N := some 56) #[Tt, Tt, Tt, Ff, Tt, Ff, Tt, Tt, Tt, Ff, Tt, Ff, Ff, Ff] ?_
              refine tZ (i := 3) (N := some 49) #[Tt, Tt, Tt, Tt, Tt, Ff, Tt, Tt, Tt, Ff, Tt, Ff, Ff, Ff] ?_
              refine pZ (i := 5) (N := some 51) #[Tt, Tt, Tt, Tt, Tt, Tt, Tt, Tt, Tt, Ff, Tt, Ff, Ff, Ff] ?_
              refine pZ (i := 12) (N := some 12) #[Tt, Tt, Tt, Tt, Tt, Tt, Tt, Tt, Tt, Ff, Tt, Ff, Tt, Ff] ?_
              refine tZ (i := 9) (N := some 55) #[Tt, Tt, Tt, Tt, Tt, Tt, Tt, Tt, Tt, Tt, Tt, Ff, Tt, Ff] ?_
              refine pZ (i := 11) (N := some 57) #[Tt, Tt, Tt, Tt, Tt, Tt, Tt, Tt, Tt, Tt, Tt, Tt, Tt, Ff] ?_
              refine pZ (i := 13) (N := some 13) #[Tt, Tt, Tt, Tt, Tt, Tt, Tt, Tt, Tt, Tt, Tt, Tt, Tt, Tt] ?_
              refine done_ (done_of HT_.out (by kernel_rfl)) ?_
              have p327 : 0 ≤ (x11_2 : Int) := of_decide_eq_true as_
              have q327 : x11_2 < (x8_2.length : Int) := of_decide_eq_true as_
              obtain ⟨ad327, e327, hx327_0⟩ := Kd.at_int (Kd.R_reads' HO_8.out).2.2 x11_2 p327 q327
              obtain rfl : ad325 = ad327 := (by injection e327)
              replace p327 := eq_true p327
              replace q327 := eq_true q327
              obtain ⟨Ao26, co26, eo26⟩ := Kd.R_slice HO_9.out
              subst eo26
              try go_wp2_with (first | ((with_reducible refine gate_callee (f := 95) rfl ?_); refine goesL_ (some 63) rfl rfl Try.func95 (by kernel_rfl) rfl #[.slice Ao26 x9_2.length co26, .int .i64 (rd x8_2 x11_2)] rfl ob_ ?_; (with_reducible refine (spec_l1Put.calls k2 (fun k_ => some k_ = (.slice Ao26 x9_2.length co26 : Value).ownBlock) (.slice Ao26 x9_2.length co26) x9_2 (rd x8_2 x11_2) t328 w _ ?side1 ?side2 A23.out).mono ?_); (case side1 => repeat (first | (with_reducible first | exact HB.out | apply below_alloc | apply pw_below_drewN | apply below_drew1 | refine below_set ?_ GE313.out) | exact HB.out)); (case side2 => exact Kd.R_tight rfl HO_9.out); rintro e w27 ⟨v329, rfl, ho0, hb, hkp⟩; refine ⟨_, rfl, ?_⟩; have n0_ := Aside0.mk (Kd.R_mono (ok' := fun k_ => True) (Kd.R_keptB ((Kd.R_apart' HO_5.out (Kd.R_typed HO_9.out) (by decide))) hkp (fun k_ hk_ hs_ => (hk_.2) hs_)) (fun k_ hk_ => trivial)); have n1_ := Aside0.mk (Kd.S_mono (ok' := fun k_ => some k_ ≠ (.slice (some ad325) x8_2.length co24 : Value).ownBlock ∧ some k_ ≠ (v329 : Value).ownBlock) (Kd.S_keptB (HO_6.out) hkp (fun k_ hk_ hs_ => (hk_.2) hs_)) (fun k_ hk_ => ⟨hk_.1.1, fun e_ => Or.elim (ho0.1 k_ e_.symm) (fun hs_ => hk_.2.1 hs_) (fun hn_ => Nat.not_le.2 hk_.2.2 hn_)⟩)); have n2_ := Aside0.mk (Kd.R_mono (ok' := fun k_ => some k_ ≠ (v329 : Value).ownBlock) (Kd.R_keptB (HO_8.out) hkp (fun k_ hk_ hs_ => (hk_) hs_)) (fun k_ hk_ => fun e_ => Or.elim (ho0.1 k_ e_.symm) (fun hs_ => hk_.2.1 hs_) (fun hn_ => Nat.not_le.2 hk_.2.2 hn_))); have n3_ := Aside0.mk (blk_kept (bk_ BK313.out) hkp (fun hs_ => (fun e_ => (Kd.R_ne HO_9.out BK313.out (by decide)) e_) hs_)); have n4_ := Aside0.mk (Kd.R_mono (ok' := fun k_ => some k_ ≠ (.slice (some ad325) x8_2.length co24 : Value).ownBlock) ho0 (fun k_ hk_ => Or.elim hk_ (fun hs_ => fun e_ => (((HO_8.out).1 k_ e_.symm)) hs_) (fun hn_ => (Kd.fresh' (Kd.R_lt (kr_ HO_8.out)) k_ hn_)))); have n5_ := Aside0.mk (hb); clear HO_5; clear HO_6; clear HO_8; clear BK313; clear HB; clear HO_9; have HO_5 := n0_; have HO_6 := n1_; have HO_8 := n2_; have BK313 := n3_; have HO330 := n4_; have HB := n5_; clear n0_ n1_ n2_ n3_ n4_ n5_; (try clear hb); (try clear hkp); (try clear ho0)))
              go_loopg [8, 10, 14] k2 (fun kq v8 v10 v14 w' => ∃ (x5_3 : List Bool) (x8_3 : List Int) (x10_3 : Bool) (x14_3 : Int), v10 = .bool x10_3 ∧ v14 = .int .i64 x14_3 ∧ Aside0 (spec_liRegions.l2 kq a0_0 a0_1 x5_3 x6_1 x8_3 t328 x10_3 x11_2 (Int.tmod (rd x8_2 x11_2) a0_0) (wrap64 (Int.tdiv (rd x8_2 x11_2) a0_0)) x14_3 (y314.length : Int) x28_1 a0_0 a0_1 l0_2 l0_3 = some r) ∧ Aside0 (kq ≤ k2) ∧ Aside0 (Kd.R Kd.bool 4 w' w.heap.size (fun _ => True) (.slice (some ⟨go15, 0, none⟩) x5_2.length co9) x5_3) ∧ Aside0 (Kd.S (Kd.slice 3 (Kd.int .i64)) 22 w' w.heap.size (fun k_ => some k_ ≠ (v8 : Value).ownBlock ∧ some k_ ≠ (v329 : Value).ownBlock) u6 x6_1) ∧ Aside0 (Kd.R (Kd.int .i64) 3 w' w.heap.size (fun k_ => some k_ ≠ (v329 : Value).ownBlock) v8 x8_3) ∧ Aside0 (Kd.R (Kd.int .i64) 3 w' w.heap.size (fun k_ => some k_ ≠ (v8 : Value).ownBlock) v329 t328) ∧ Aside0 (w'.heap[gb313]? = some (.cells #[.int .i64 a0_0, .int .i64 a0_1, (.slice A0_2 l0_2.length c0_2), (.slice A0_3 l0_3.length c0_3)] 28 (0, 0))) ∧ Aside0 (Below w.heap.size w w'))
              case atStart => exact ⟨(x5_2), (x8_2), (x10_2), (0), rs_, rs_, H', ⟨Nat.le_refl _⟩, ⟨by (try simp only [hl5_1]); (try simp only [hl5_2]); (with_reducible repeat (first | apply Kd.R_alloc | apply Kd.R_drewN | apply Kd.R_drew)); exact HO_5.out⟩, ⟨by (try simp only [hl5_1]); (try simp only [hl5_2]); (with_reducible repeat (first | apply Kd.S_alloc | apply Kd.S_drewN | apply Kd.S_drew)); exact HO_6.out⟩, ⟨by (try simp only [hl5_1]); (try simp only [hl5_2]); (with_reducible repeat (first | apply Kd.R_alloc | apply Kd.R_drewN | apply Kd.R_drew)); exact HO_8.out⟩, ⟨by (try simp only [hl5_1]); (try simp only [hl5_2]); (with_reducible repeat (first | apply Kd.R_alloc | apply Kd.R_drewN | apply Kd.R_drew)); exact HO330.out⟩, ⟨by (try simp only [hl5_1]); (try simp only [hl5_2]); (with_reducible repeat (first | refine blk_drewN ?_ _ | refine blk_drew ?_ | refine blk_alloc ?_ _)); exact BK313.out⟩, ⟨bl1_ HB.out GE313.out⟩⟩
              case round =>
               clear H'
               try clear c1
               try clear p1
               try clear q1
               try clear hx1
               try clear hf1
               try clear c2
               try clear p2
               try clear c3
               try clear c3b0
               try clear c3b1
               try clear p3
               try clear q3
               try clear hx3
               try clear c4
               try clear c4b0
               try clear c4b1
               try clear p6
               try clear c9
               try clear c10
               try clear c10b0
               try clear c11
               try clear c11b0
               try clear c12
               try clear c12b0
               try clear q13
               try clear c14
               try clear p15
               try clear q15
               try clear hx15
               try clear hf15
               try clear c20
               try clear c20b0
               try clear c21
               try clear c21b0
               try clear c22
               try clear c22b0
               try clear c22b1
               try clear hx15_0
               try clear hx317_0
               try clear hx325_0
               try clear hx326_0
               try clear hx327_0
               try clear p1
               try clear p15
               try clear p2
               try clear p3
               try clear p317
               try clear p325
               try clear p326
               try clear p327
               try clear p6
               try clear q1
               try clear q13
               try clear q15
               try clear q3
               try clear q317
               try clear q325
               try clear q326
               try clear q327
               obtain ⟨x5_3, x8_3, x10_3, x14_3, rfl, rfl, HA, HK3, HO_5, HO_6, HO_8, HO_9, BK313, HB⟩ := hrel
               have hl5_3 := (Kd.R_reads' HO_5.out).1
               rw [hl5_3] at HO_5
               (try simp only [hl5_3])
               (try simp only [hl5_3] at BK313)
               (try simp only [hl5_3] at HO_6)
               (try simp only [hl5_3] at HO_8)
               (try simp only [hl5_3] at HO_9)
               cases gk with
               | zero => exact absurd HA.out (by simp [spec_liRegions.l2])
               | succ k3 =>
                have H := HA.out
                clear HA
                simp only [spec_liRegions.l2] at H
                by_cases c28 : x14_3 < 4
                ·rw [if_pos c28] at H
                 have c28b0 : decide (x14_3 < 4) = true := decide_eq_true c28
                 clear c28
                 replace H := Option.bind_eq_some_iff.mp H
                 obtain ⟨t331, A290, H⟩ := H
                 replace H : ((spec_fiHas.f k3 a0_0 a0_1 l0_2 l0_3 true (wrap64 ((Int.tmod (rd x8_2 x11_2) a0_0) + 1)) (wrap64 (Int.tdiv (rd x8_2 x11_2) a0_0))).bind fun t332 => ((spec_fiHas.f k3 a0_0 a0_1 l0_2 l0_3 false (Int.tmod (rd x8_2 x11_2) a0_0) (wrap64 ((wrap64 (Int.tdiv (rd x8_2 x11_2) a0_0)) + 1))).bind fun t333 => ((spec_fiHas.f k3 a0_0 a0_1 l0_2 l0_3 true (Int.tmod (rd x8_2 x11_2) a0_0) (wrap64 (Int.tdiv (rd x8_2 x11_2) a0_0))).bind fun t334 => ((some (([t331, t332, t333, t334] : List Bool) : List Bool)).bind fun y335 => (if 0 ≤ x14_3 then (if x14_3 < (y335.length : Int) then ((some (([0, 1, 0, (-1)] : List Int) : List Int)).bind fun y339 => (if x14_3 < (y339.length : Int) then ((some (([(-1), 0, 1, 0] : List Int) : List Int)).bind fun y343 => (if x14_3 < (y343.length : Int) then (if rdOf false y335 x14_3 = true then (spec_liRegions.l2 k3 a0_0 a0_1 x5_3 x6_1 x8_3 t328 x10_3 x11_2 (Int.tmod (rd x8_2 x11_2) a0_0) (wrap64 (Int.tdiv (rd x8_2 x11_2) a0_0)) (wrap64 (x14_3 + 1)) (y314.length : Int) x28_1 a0_0 a0_1 l0_2 l0_3) else ((spec_l1In.f (wrap64 ((Int.tmod (rd x8_2 x11_2) a0_0) + (rd y339 x14_3))) 0 (wrap64 (a0_0 - 1))).bind fun t347 => (if t347 = true then ((spec_l1In.f (wrap64 ((wrap64 (Int.tdiv (rd x8_2 x11_2) a0_0)) + (rd y343 x14_3))) 0 (wrap64 (a0_1 - 1))).bind fun t348 => (spec_liRegions.j3 k3 a0_0 a0_1 x5_3 x6_1 x8_3 t328 x10_3 x11_2 (Int.tmod (rd x8_2 x11_2) a0_0) (wrap64 (Int.tdiv (rd x8_2 x11_2) a0_0)) x14_3 (wrap64 ((Int.tmod (rd x8_2 x11_2) a0_0) + (rd y339 x14_3))) (wrap64 ((wrap64 (Int.tdiv (rd x8_2 x11_2) a0_0)) + (rd y343 x14_3))) (y314.length : Int) x28_1 (!t348) a0_0 a0_1 l0_2 l0_3)) else (spec_liRegions.j3 k3 a0_0 a0_1 x5_3 x6_1 x8_3 t328 x10_3 x11_2 (Int.tmod (rd x8_2 x11_2) a0_0) (wrap64 (Int.tdiv (rd x8_2 x11_2) a0_0)) x14_3 (wrap64 ((Int.tmod (rd x8_2 x11_2) a0_0) + (rd y339 x14_3))) (wrap64 ((wrap64 (Int.tdiv (rd x8_2 x11_2) a0_0)) + (rd y343 x14_3))) (y314.length : Int) x28_1 true a0_0 a0_1 l0_2 l0_3)))) else (none))) else (none))) else (none)) else (none)))))) = some r := H
                 have A29 := Aside0.mk A290
                 clear A290
                 replace H := Option.bind_eq_some_iff.mp H
                 obtain ⟨t332, A300, H⟩ := H
                 replace H : ((spec_fiHas.f k3 a0_0 a0_1 l0_2 l0_3 false (Int.tmod (rd x8_2 x11_2) a0_0) (wrap64 ((wrap64 (Int.tdiv (rd x8_2 x11_2) a0_0)) + 1))).bind fun t333 => ((spec_fiHas.f k3 a0_0 a0_1 l0_2 l0_3 true (Int.tmod (rd x8_2 x11_2) a0_0) (wrap64 (Int.tdiv (rd x8_2 x11_2) a0_0))).bind fun t334 => ((some (([t331, t332, t333, t334] : List Bool) : List Bool)).bind fun y335 => (if 0 ≤ x14_3 then (if x14_3 < (y335.length : Int) then ((some (([0, 1, 0, (-1)] : List Int) : List Int)).bind fun y339 => (if x14_3 < (y339.length : Int) then ((some (([(-1), 0, 1, 0] : List Int) : List Int)).bind fun y343 => (if x14_3 < (y343.length : Int) then (if rdOf false y335 x14_3 = true then (spec_liRegions.l2 k3 a0_0 a0_1 x5_3 x6_1 x8_3 t328 x10_3 x11_2 (Int.tmod (rd x8_2 x11_2) a0_0) (wrap64 (Int.tdiv (rd x8_2 x11_2) a0_0)) (wrap64 (x14_3 + 1)) (y314.length : Int) x28_1 a0_0 a0_1 l0_2 l0_3) else ((spec_l1In.f (wrap64 ((Int.tmod (rd x8_2 x11_2) a0_0) + (rd y339 x14_3))) 0 (wrap64 (a0_0 - 1))).bind fun t347 => (if t347 = true then ((spec_l1In.f (wrap64 ((wrap64 (Int.tdiv (rd x8_2 x11_2) a0_0)) + (rd y343 x14_3))) 0 (wrap64 (a0_1 - 1))).bind fun t348 => (spec_liRegions.j3 k3 a0_0 a0_1 x5_3 x6_1 x8_3 t328 x10_3 x11_2 (Int.tmod (rd x8_2 x11_2) a0_0) (wrap64 (Int.tdiv (rd x8_2 x11_2) a0_0)) x14_3 (wrap64 ((Int.tmod (rd x8_2 x11_2) a0_0) + (rd y339 x14_3))) (wrap64 ((wrap64 (Int.tdiv (rd x8_2 x11_2) a0_0)) + (rd y343 x14_3))) (y314.length : Int) x28_1 (!t348) a0_0 a0_1 l0_2 l0_3)) else (spec_liRegions.j3 k3 a0_0 a0_1 x5_3 x6_1 x8_3 t328 x10_3 x11_2 (Int.tmod (rd x8_2 x11_2) a0_0) (wrap64 (Int.tdiv (rd x8_2 x11_2) a0_0)) x14_3 (wrap64 ((Int.tmod (rd x8_2 x11_2) a0_0) + (rd y339 x14_3))) (wrap64 ((wrap64 (Int.tdiv (rd x8_2 x11_2) a0_0)) + (rd y343 x14_3))) (y314.length : Int) x28_1 true a0_0 a0_1 l0_2 l0_3)))) else (none))) else (none))) else (none)) else (none))))) = some r := H
                 have A30 := Aside0.mk A300
                 clear A300
                 replace H := Option.bind_eq_some_iff.mp H
                 obtain ⟨t333, A310, H⟩ := H
                 replace H : ((spec_fiHas.f k3 a0_0 a0_1 l0_2 l0_3 true (Int.tmod (rd x8_2 x11_2) a0_0) (wrap64 (Int.tdiv (rd x8_2 x11_2) a0_0))).bind fun t334 => ((some (([t331, t332, t333, t334] : List Bool) : List Bool)).bind fun y335 => (if 0 ≤ x14_3 then (if x14_3 < (y335.length : Int) then ((some (([0, 1, 0, (-1)] : List Int) : List Int)).bind fun y339 => (if x14_3 < (y339.length : Int) then ((some (([(-1), 0, 1, 0] : List Int) : List Int)).bind fun y343 => (if x14_3 < (y343.length : Int) then (if rdOf false y335 x14_3 = true then (spec_liRegions.l2 k3 a0_0 a0_1 x5_3 x6_1 x8_3 t328 x10_3 x11_2 (Int.tmod (rd x8_2 x11_2) a0_0) (wrap64 (Int.tdiv (rd x8_2 x11_2) a0_0)) (wrap64 (x14_3 + 1)) (y314.length : Int) x28_1 a0_0 a0_1 l0_2 l0_3) else ((spec_l1In.f (wrap64 ((Int.tmod (rd x8_2 x11_2) a0_0) + (rd y339 x14_3))) 0 (wrap64 (a0_0 - 1))).bind fun t347 => (if t347 = true then ((spec_l1In.f (wrap64 ((wrap64 (Int.tdiv (rd x8_2 x11_2) a0_0)) + (rd y343 x14_3))) 0 (wrap64 (a0_1 - 1))).bind fun t348 => (spec_liRegions.j3 k3 a0_0 a0_1 x5_3 x6_1 x8_3 t328 x10_3 x11_2 (Int.tmod (rd x8_2 x11_2) a0_0) (wrap64 (Int.tdiv (rd x8_2 x11_2) a0_0)) x14_3 (wrap64 ((Int.tmod (rd x8_2 x11_2) a0_0) + (rd y339 x14_3))) (wrap64 ((wrap64 (Int.tdiv (rd x8_2 x11_2) a0_0)) + (rd y343 x14_3))) (y314.length : Int) x28_1 (!t348) a0_0 a0_1 l0_2 l0_3)) else (spec_liRegions.j3 k3 a0_0 a0_1 x5_3 x6_1 x8_3 t328 x10_3 x11_2 (Int.tmod (rd x8_2 x11_2) a0_0) (wrap64 (Int.tdiv (rd x8_2 x11_2) a0_0)) x14_3 (wrap64 ((Int.tmod (rd x8_2 x11_2) a0_0) + (rd y339 x14_3))) (wrap64 ((wrap64 (Int.tdiv (rd x8_2 x11_2) a0_0)) + (rd y343 x14_3))) (y314.length : Int) x28_1 true a0_0 a0_1 l0_2 l0_3)))) else (none))) else (none))) else (none)) else (none)))) = some r := H
                 have A31 := Aside0.mk A310
                 clear A310
                 replace H := Option.bind_eq_some_iff.mp H
                 obtain ⟨t334, A320, H⟩ := H
                 replace H : ((some (([t331, t332, t333, t334] : List Bool) : List Bool)).bind fun y335 => (if 0 ≤ x14_3 then (if x14_3 < (y335.length : Int) then ((some (([0, 1, 0, (-1)] : List Int) : List Int)).bind fun y339 => (if x14_3 < (y339.length : Int) then ((some (([(-1), 0, 1, 0] : List Int) : List Int)).bind fun y343 => (if x14_3 < (y343.length : Int) then (if rdOf false y335 x14_3 = true then (spec_liRegions.l2 k3 a0_0 a0_1 x5_3 x6_1 x8_3 t328 x10_3 x11_2 (Int.tmod (rd x8_2 x11_2) a0_0) (wrap64 (Int.tdiv (rd x8_2 x11_2) a0_0)) (wrap64 (x14_3 + 1)) (y314.length : Int) x28_1 a0_0 a0_1 l0_2 l0_3) else ((spec_l1In.f (wrap64 ((Int.tmod (rd x8_2 x11_2) a0_0) + (rd y339 x14_3))) 0 (wrap64 (a0_0 - 1))).bind fun t347 => (if t347 = true then ((spec_l1In.f (wrap64 ((wrap64 (Int.tdiv (rd x8_2 x11_2) a0_0)) + (rd y343 x14_3))) 0 (wrap64 (a0_1 - 1))).bind fun t348 => (spec_liRegions.j3 k3 a0_0 a0_1 x5_3 x6_1 x8_3 t328 x10_3 x11_2 (Int.tmod (rd x8_2 x11_2) a0_0) (wrap64 (Int.tdiv (rd x8_2 x11_2) a0_0)) x14_3 (wrap64 ((Int.tmod (rd x8_2 x11_2) a0_0) + (rd y339 x14_3))) (wrap64 ((wrap64 (Int.tdiv (rd x8_2 x11_2) a0_0)) + (rd y343 x14_3))) (y314.length : Int) x28_1 (!t348) a0_0 a0_1 l0_2 l0_3)) else (spec_liRegions.j3 k3 a0_0 a0_1 x5_3 x6_1 x8_3 t328 x10_3 x11_2 (Int.tmod (rd x8_2 x11_2) a0_0) (wrap64 (Int.tdiv (rd x8_2 x11_2) a0_0)) x14_3 (wrap64 ((Int.tmod (rd x8_2 x11_2) a0_0) + (rd y339 x14_3))) (wrap64 ((wrap64 (Int.tdiv (rd x8_2 x11_2) a0_0)) + (rd y343 x14_3))) (y314.length : Int) x28_1 true a0_0 a0_1 l0_2 l0_3)))) else (none))) else (none))) else (none)) else (none))) = some r := H
                 have A32 := Aside0.mk A320
                 clear A320
                 obtain ⟨y335, hy335⟩ : ∃ y_ : List Bool, y_ = (([t331, t332, t333, t334] : List Bool)) := ⟨_, rfl⟩
                 replace H : (if 0 ≤ x14_3 then (if x14_3 < (y335.length : Int) then ((some (([0, 1, 0, (-1)] : List Int) : List Int)).bind fun y339 => (if x14_3 < (y339.length : Int) then ((some (([(-1), 0, 1, 0] : List Int) : List Int)).bind fun y343 => (if x14_3 < (y343.length : Int) then (if rdOf false y335 x14_3 = true then (spec_liRegions.l2 k3 a0_0 a0_1 x5_3 x6_1 x8_3 t328 x10_3 x11_2 (Int.tmod (rd x8_2 x11_2) a0_0) (wrap64 (Int.tdiv (rd x8_2 x11_2) a0_0)) (wrap64 (x14_3 + 1)) (y314.length : Int) x28_1 a0_0 a0_1 l0_2 l0_3) else ((spec_l1In.f (wrap64 ((Int.tmod (rd x8_2 x11_2) a0_0) + (rd y339 x14_3))) 0 (wrap64 (a0_0 - 1))).bind fun t347 => (if t347 = true then ((spec_l1In.f (wrap64 ((wrap64 (Int.tdiv (rd x8_2 x11_2) a0_0)) + (rd y343 x14_3))) 0 (wrap64 (a0_1 - 1))).bind fun t348 => (spec_liRegions.j3 k3 a0_0 a0_1 x5_3 x6_1 x8_3 t328 x10_3 x11_2 (Int.tmod (rd x8_2 x11_2) a0_0) (wrap64 (Int.tdiv (rd x8_2 x11_2) a0_0)) x14_3 (wrap64 ((Int.tmod (rd x8_2 x11_2) a0_0) + (rd y339 x14_3))) (wrap64 ((wrap64 (Int.tdiv (rd x8_2 x11_2) a0_0)) + (rd y343 x14_3))) (y314.length : Int) x28_1 (!t348) a0_0 a0_1 l0_2 l0_3)) else (spec_liRegions.j3 k3 a0_0 a0_1 x5_3 x6_1 x8_3 t328 x10_3 x11_2 (Int.tmod (rd x8_2 x11_2) a0_0) (wrap64 (Int.tdiv (rd x8_2 x11_2) a0_0)) x14_3 (wrap64 ((Int.tmod (rd x8_2 x11_2) a0_0) + (rd y339 x14_3))) (wrap64 ((wrap64 (Int.tdiv (rd x8_2 x11_2) a0_0)) + (rd y343 x14_3))) (y314.length : Int) x28_1 true a0_0 a0_1 l0_2 l0_3)))) else (none))) else (none))) else (none)) else (none)) = some r := by first | (rw [hy335]; with_reducible exact H) | (have H2_ := (Option.bind_some _ _).symm.trans H; rw [hy335]; with_reducible exact H2_) | (have H2_ := (Option.bind_some _ _).symm.trans H; with_reducible exact H2_) | with_reducible exact H | (rw [hy335]; exact H) | exact H
                 have Ny335 := Aside0.mk hy335
                 clear hy335
                 by_cases c33 : 0 ≤ x14_3
                 ·rw [if_pos c33] at H
                  have c33b0 : decide (0 ≤ x14_3) = true := decide_eq_true c33
                  clear c33
                  by_cases c34 : x14_3 < (y335.length : Int)
                  ·rw [if_pos c34] at H
                   have c34b0 : decide (x14_3 < (y335.length : Int)) = true := decide_eq_true c34
                   clear c34
                   obtain ⟨y339, hy339⟩ : ∃ y_ : List Int, y_ = (([0, 1, 0, (-1)] : List Int)) := ⟨_, rfl⟩
                   replace H : (if x14_3 < (y339.length : Int) then ((some (([(-1), 0, 1, 0] : List Int) : List Int)).bind fun y343 => (if x14_3 < (y343.length : Int) then (if rdOf false y335 x14_3 = true then (spec_liRegions.l2 k3 a0_0 a0_1 x5_3 x6_1 x8_3 t328 x10_3 x11_2 (Int.tmod (rd x8_2 x11_2) a0_0) (wrap64 (Int.tdiv (rd x8_2 x11_2) a0_0)) (wrap64 (x14_3 + 1)) (y314.length : Int) x28_1 a0_0 a0_1 l0_2 l0_3) else ((spec_l1In.f (wrap64 ((Int.tmod (rd x8_2 x11_2) a0_0) + (rd y339 x14_3))) 0 (wrap64 (a0_0 - 1))).bind fun t347 => (if t347 = true then ((spec_l1In.f (wrap64 ((wrap64 (Int.tdiv (rd x8_2 x11_2) a0_0)) + (rd y343 x14_3))) 0 (wrap64 (a0_1 - 1))).bind fun t348 => (spec_liRegions.j3 k3 a0_0 a0_1 x5_3 x6_1 x8_3 t328 x10_3 x11_2 (Int.tmod (rd x8_2 x11_2) a0_0) (wrap64 (Int.tdiv (rd x8_2 x11_2) a0_0)) x14_3 (wrap64 ((Int.tmod (rd x8_2 x11_2) a0_0) + (rd y339 x14_3))) (wrap64 ((wrap64 (Int.tdiv (rd x8_2 x11_2) a0_0)) + (rd y343 x14_3))) (y314.length : Int) x28_1 (!t348) a0_0 a0_1 l0_2 l0_3)) else (spec_liRegions.j3 k3 a0_0 a0_1 x5_3 x6_1 x8_3 t328 x10_3 x11_2 (Int.tmod (rd x8_2 x11_2) a0_0) (wrap64 (Int.tdiv (rd x8_2 x11_2) a0_0)) x14_3 (wrap64 ((Int.tmod (rd x8_2 x11_2) a0_0) + (rd y339 x14_3))) (wrap64 ((wrap64 (Int.tdiv (rd x8_2 x11_2) a0_0)) + (rd y343 x14_3))) (y314.length : Int) x28_1 true a0_0 a0_1 l0_2 l0_3)))) else (none))) else (none)) = some r := by first | (rw [hy339]; with_reducible exact H) | (have H2_ := (Option.bind_some _ _).symm.trans H; rw [hy339]; with_reducible exact H2_) | (have H2_ := (Option.bind_some _ _).symm.trans H; with_reducible exact H2_) | with_reducible exact H | (rw [hy339]; exact H) | exact H
                   have Ny339 := Aside0.mk hy339
                   clear hy339
                   by_cases c35 : x14_3 < (y339.length : Int)
                   ·rw [if_pos c35] at H
                    have c35b0 : decide (x14_3 < (y339.length : Int)) = true := decide_eq_true c35
                    clear c35
                    obtain ⟨y343, hy343⟩ : ∃ y_ : List Int, y_ = (([(-1), 0, 1, 0] : List Int)) := ⟨_, rfl⟩
                    replace H : (if x14_3 < (y343.length : Int) then (if rdOf false y335 x14_3 = true then (spec_liRegions.l2 k3 a0_0 a0_1 x5_3 x6_1 x8_3 t328 x10_3 x11_2 (Int.tmod (rd x8_2 x11_2) a0_0) (wrap64 (Int.tdiv (rd x8_2 x11_2) a0_0)) (wrap64 (x14_3 + 1)) (y314.length : Int) x28_1 a0_0 a0_1 l0_2 l0_3) else ((spec_l1In.f (wrap64 ((Int.tmod (rd x8_2 x11_2) a0_0) + (rd y339 x14_3))) 0 (wrap64 (a0_0 - 1))).bind fun t347 => (if t347 = true then ((spec_l1In.f (wrap64 ((wrap64 (Int.tdiv (rd x8_2 x11_2) a0_0)) + (rd y343 x14_3))) 0 (wrap64 (a0_1 - 1))).bind fun t348 => (spec_liRegions.j3 k3 a0_0 a0_1 x5_3 x6_1 x8_3 t328 x10_3 x11_2 (Int.tmod (rd x8_2 x11_2) a0_0) (wrap64 (Int.tdiv (rd x8_2 x11_2) a0_0)) x14_3 (wrap64 ((Int.tmod (rd x8_2 x11_2) a0_0) + (rd y339 x14_3))) (wrap64 ((wrap64 (Int.tdiv (rd x8_2 x11_2) a0_0)) + (rd y343 x14_3))) (y314.length : Int) x28_1 (!t348) a0_0 a0_1 l0_2 l0_3)) else (spec_liRegions.j3 k3 a0_0 a0_1 x5_3 x6_1 x8_3 t328 x10_3 x11_2 (Int.tmod (rd x8_2 x11_2) a0_0) (wrap64 (Int.tdiv (rd x8_2 x11_2) a0_0)) x14_3 (wrap64 ((Int.tmod (rd x8_2 x11_2) a0_0) + (rd y339 x14_3))) (wrap64 ((wrap64 (Int.tdiv (rd x8_2 x11_2) a0_0)) + (rd y343 x14_3))) (y314.length : Int) x28_1 true a0_0 a0_1 l0_2 l0_3)))) else (none)) = some r := by first | (rw [hy343]; with_reducible exact H) | (have H2_ := (Option.bind_some _ _).symm.trans H; rw [hy343]; with_reducible exact H2_) | (have H2_ := (Option.bind_some _ _).symm.trans H; with_reducible exact H2_) | with_reducible exact H | (rw [hy343]; exact H) | exact H
                    have Ny343 := Aside0.mk hy343
                    clear hy343
                    by_cases c36 : x14_3 < (y343.length : Int)
                    ·rw [if_pos c36] at H
                     have c36b0 : decide (x14_3 < (y343.length : Int)) = true := decide_eq_true c36
                     clear c36
                     obtain ⟨bq37, hbq37⟩ : ∃ b_ : Bool, b_ = (rdOf false y335 x14_3) := ⟨_, rfl⟩
                     replace H : (if bq37 = true then (spec_liRegions.l2 k3 a0_0 a0_1 x5_3 x6_1 x8_3 t328 x10_3 x11_2 (Int.tmod (rd x8_2 x11_2) a0_0) (wrap64 (Int.tdiv (rd x8_2 x11_2) a0_0)) (wrap64 (x14_3 + 1)) (y314.length : Int) x28_1 a0_0 a0_1 l0_2 l0_3) else ((spec_l1In.f (wrap64 ((Int.tmod (rd x8_2 x11_2) a0_0) + (rd y339 x14_3))) 0 (wrap64 (a0_0 - 1))).bind fun t347 => (if t347 = true then ((spec_l1In.f (wrap64 ((wrap64 (Int.tdiv (rd x8_2 x11_2) a0_0)) + (rd y343 x14_3))) 0 (wrap64 (a0_1 - 1))).bind fun t348 => (spec_liRegions.j3 k3 a0_0 a0_1 x5_3 x6_1 x8_3 t328 x10_3 x11_2 (Int.tmod (rd x8_2 x11_2) a0_0) (wrap64 (Int.tdiv (rd x8_2 x11_2) a0_0)) x14_3 (wrap64 ((Int.tmod (rd x8_2 x11_2) a0_0) + (rd y339 x14_3))) (wrap64 ((wrap64 (Int.tdiv (rd x8_2 x11_2) a0_0)) + (rd y343 x14_3))) (y314.length : Int) x28_1 (!t348) a0_0 a0_1 l0_2 l0_3)) else (spec_liRegions.j3 k3 a0_0 a0_1 x5_3 x6_1 x8_3 t328 x10_3 x11_2 (Int.tmod (rd x8_2 x11_2) a0_0) (wrap64 (Int.tdiv (rd x8_2 x11_2) a0_0)) x14_3 (wrap64 ((Int.tmod (rd x8_2 x11_2) a0_0) + (rd y339 x14_3))) (wrap64 ((wrap64 (Int.tdiv (rd x8_2 x11_2) a0_0)) + (rd y343 x14_3))) (y314.length : Int) x28_1 true a0_0 a0_1 l0_2 l0_3)))) = some r := by rw [← hbq37] at H; exact H
                     have Nbq37 := Aside0.mk hbq37
                     clear hbq37
                     by_cases c38 : bq37 = true
                     ·subst c38
                      have H1 : (spec_liRegions.l2 k3 a0_0 a0_1 x5_3 x6_1 x8_3 t328 x10_3 x11_2 (Int.tmod (rd x8_2 x11_2) a0_0) (wrap64 (Int.tdiv (rd x8_2 x11_2) a0_0)) (wrap64 (x14_3 + 1)) (y314.length : Int) x28_1 a0_0 a0_1 l0_2 l0_3) = some r := by rw [if_pos rfl] at H; exact H
                      clear H
                      have H := H1
                      clear H1
                      have H' := Aside0.mk H
                      clear H
                      try go_wp2
                      have pi338 : (0 ≤ (x14_3 : Int)) = True := eq_true (of_decide_eq_true as_)
                      have qi338 : (x14_3 < (y335.length : Int)) = True := eq_true (of_decide_eq_true as_)
                      have n0_ := Aside0.mk (Kd.R_drew HO_5.out)
                      have n1_ := Aside0.mk (Kd.S_drew HO_6.out)
                      have n2_ := Aside0.mk (Kd.R_drew HO_8.out)
                      have n3_ := Aside0.mk (Kd.R_drew HO_9.out)
                      have n4_ := Aside0.mk (blk_drew BK313.out)
                      have n5_ := Aside0.mk (below_drew1 HB.out)
                      clear HO_5
                      clear HO_6
                      clear HO_8
                      clear HO_9
                      clear BK313
                      clear HB
                      have HO_5 := n0_
                      have HO_6 := n1_
                      have HO_8 := n2_
                      have HO_9 := n3_
                      have BK313 := n4_
                      have HB := n5_
                      clear n0_ n1_ n2_ n3_ n4_ n5_
                      refine start_ (n := 23) (S := fun w' => w'.cell? ⟨gb313, 0, none⟩ = some (.int .i64 a0_0) ∧ w'.cell? ⟨gb313, 1, none⟩ = some (.int .i64 a0_1) ∧ w'.cell? ⟨gb313, 2, none⟩ = some (.slice A0_2 l0_2.length c0_2) ∧ w'.cell? ⟨gb313, 3, none⟩ = some (.slice A0_3 l0_3.length c0_3)) (ds := []) #[Ff, Ff, Ff, Ff, Ff, Ff, Ff, Ff, Ff, Ff, Ff, Ff, Ff, Ff, Ff, Ff, Ff, Ff, Ff, Ff, Ff, Ff, Ff] (by kernel_rfl) rfl rfl ⟨(blk_cell BK313.out 0).trans rfl, (blk_cell BK313.out 1).trans rfl, (blk_cell BK313.out 2).trans rfl, (blk_cell BK313.out 3).trans rfl⟩ (fun hHeld => ?_); refine with_tabW spec_liRegions.tab20 spec_liRegions.bits20 (fun HT_ HW_ => ?_)
                      generalize wr.drew = w39 at HO_5 HO_6 HO_8 HO_9 BK313 HB hHeld ⊢
                      refine pZ (i := 1) (N := some 69) #[Ff, Tt, Ff, Ff, Ff, Ff, Ff, Ff, Ff, Ff, Ff, Ff, Ff, Ff, Ff, Ff, Ff, Ff, Ff, Ff, Ff, Ff, Ff] ?_
                      refine pZ (i := 2) (N := some 70) #[Ff, Tt, Tt, Ff, Ff, Ff, Ff, Ff, Ff, Ff, Ff, Ff, Ff, Ff, Ff, Ff, Ff, Ff, Ff, Ff, Ff, Ff, Ff] ?_
                      refine pZ (i := 5) (N := some 73) #[Ff, Tt, Tt, Ff, Ff, Tt, Ff, Ff, Ff, Ff, Ff, Ff, Ff, Ff, Ff, Ff, Ff, Ff, Ff, Ff, Ff, Ff, Ff] ?_
                      refine pZ (i := 6) (N := some 74) #[Ff, Tt, Tt, Ff, Ff, Tt, Tt, Ff, Ff, Ff, Ff, Ff, Ff, Ff, Ff, Ff, Ff, Ff, Ff, Ff, Ff, Ff, Ff] ?_
                      refine pZ (i := 7) (N := some 75) #[Ff, Tt, Tt, Ff, Ff, Tt, Tt, Tt, Ff, Ff, Ff, Ff, Ff, Ff, Ff, Ff, Ff, Ff, Ff, Ff, Ff, Ff, Ff] ?_
                      refine pZ (i := 10) (N := some 78) #[Ff, Tt, Tt, Ff, Ff, Tt, Tt, Tt, Ff, Ff, Tt, Ff, Ff, Ff, Ff, Ff, Ff, Ff, Ff, Ff, Ff, Ff, Ff] ?_
                      refine pZ (i := 11) (N := some 79) #[Ff, Tt, Tt, Ff, Ff, Tt, Tt, Tt, Ff, Ff, Tt, Tt, Ff, Ff, Ff, Ff, Ff, Ff, Ff, Ff, Ff, Ff, Ff] ?_
                      refine pZ (i := 12) (N := some 80) #[Ff, Tt, Tt, Ff, Ff, Tt, Tt, Tt, Ff, Ff, Tt, Tt, Tt, Ff, Ff, Ff, Ff, Ff, Ff, Ff, Ff, Ff, Ff] ?_
                      refine pZ (i := 15) (N := some 83) #[Ff, Tt, Tt, Ff, Ff, Tt, Tt, Tt, Ff, Ff, Tt, Tt, Tt, Ff, Ff, Tt, Ff, Ff, Ff, Ff, Ff, Ff, Ff] ?_
                      refine pZ (i := 16) (N := some 84) #[Ff, Tt, Tt, Ff, Ff, Tt, Tt, Tt, Ff, Ff, Tt, Tt, Tt, Ff, Ff, Tt, Tt, Ff, Ff, Ff, Ff, Ff, Ff] ?_
                      refine pZ (i := 19) (N := some 87) #[Ff, Tt, Tt, Ff, Ff, Tt, Tt, Tt, Ff, Ff, Tt, Tt, Tt, Ff, Ff, Tt, Tt, Ff, Ff, Tt, Ff, Ff, Ff] ?_
                      refine tZ (i := 0) (N := some 68) #[Tt, Tt, Tt, Ff, Ff, Tt, Tt, Tt, Ff, Ff, Tt, Tt, Tt, Ff, Ff, Tt, Tt, Ff, Ff, Tt, Ff, Ff, Ff] ?_
                      refine tZ (i := 4) (N := some 72) #[Tt, Tt, Tt, Ff, Tt, Tt, Tt, Tt, Ff, Ff, Tt, Tt, Tt, Ff, Ff, Tt, Tt, Ff, Ff, Tt, Ff, Ff, Ff] ?_
                      refine tZ (i := 9) (N := some 77) #[Tt, Tt, Tt, Ff, Tt, Tt, Tt, Tt, Ff, Tt, Tt, Tt, Tt, Ff, Ff, Tt, Tt, Ff, Ff, Tt, Ff, Ff, Ff] ?_
                      refine tZ (i := 14) (N := some 82) #[Tt, Tt, Tt, Ff, Tt, Tt, Tt, Tt, Ff, Tt, Tt, Tt, Tt, Ff, Tt, Tt, Tt, Ff, Ff, Tt, Ff, Ff, Ff] ?_
                      refine one_ (i := 3) (N := some 71) #[Tt, Tt, Tt, Tt, Tt, Tt, Tt, Tt, Ff, Tt, Tt, Tt, Tt, Ff, Tt, Tt, Tt, Ff, Ff, Tt, Ff, Ff, Ff] rfl rfl (one_of HT_.out (by kernel_rfl)) (by decide) (fun K hK => ?_)
                      refine goes_ Try.func78 (by kernel_rfl) rfl #[.agg #[.int .i64 a0_0, .int .i64 a0_1, .slice A0_2 l0_2.length c0_2, .slice A0_3 l0_3.length c0_3], .bool false, .int .i64 (Int.tmod (rd x8_2 x11_2) a0_0), .int .i64 (wrap64 (Int.tdiv (rd x8_2 x11_2) a0_0))] (by rfl) rfl rfl ob_ ?_
                      with_reducible refine (spec_fiHas.calls k3 a0_0 a0_1 _ _ l0_2 _ _ l0_3 false (Int.tmod (rd x8_2 x11_2) a0_0) (wrap64 (Int.tdiv (rd x8_2 x11_2) a0_0)) t331 _ ?side1 ?side2 ?side3 ?side4 A29.out).mono ?_
                      (case side1 => exact kc_ (Kd.C_below HR0_2.out HB.out))
                      (case side2 => exact HC0_2.out)
                      (case side3 => exact kc_ (Kd.C_below HR0_3.out HB.out))
                      (case side4 => exact HC0_3.out)
                      rintro e w40 ⟨rfl, hb⟩
                      refine ⟨_, rfl, ?_⟩
                      have n0_ := Aside0.mk (Kd.R_below (kr_ HO_5.out) hb)
                      have n1_ := Aside0.mk (Kd.S_below (by (with_reducible repeat (first | apply Kd.S_alloc | apply Kd.S_drewN | apply Kd.S_drew)); exact HO_6.out) hb)
                      have n2_ := Aside0.mk (Kd.R_below (kr_ HO_8.out) hb)
                      have n3_ := Aside0.mk (Kd.R_below (kr_ HO_9.out) hb)
                      have n4_ := Aside0.mk (bb_ BK313.out hb)
                      have n5_ := Aside0.mk (below_step (bl1_ HB.out GE313.out) hb)
                      clear HO_5
                      clear HO_6
                      clear HO_8
                      clear HO_9
                      clear BK313
                      clear HB
                      have HO_5 := n0_
                      have HO_6 := n1_
                      have HO_8 := n2_
                      have HO_9 := n3_
                      have BK313 := n4_
                      have HB := n5_
                      clear n0_ n1_ n2_ n3_ n4_ n5_
                      (try clear hb)
                      (try clear hb2)
                      (try clear hk)
                      (try clear hi)
                      refine hK.out _ _ ⟨(blk_cell BK313.out 0).trans rfl, (blk_cell BK313.out 1).trans rfl, (blk_cell BK313.out 2).trans rfl, (blk_cell BK313.out 3).trans rfl⟩ (fun hHeld => ?_)
                      clear hK K
                      refine norm_ (a' := _) ap_ ?_
                      refine one_ (i := 8) (N := some 76) #[Tt, Tt, Tt, Tt, Tt, Tt, Tt, Tt, Tt, Tt, Tt, Tt, Tt, Ff, Tt, Tt, Tt, Ff, Ff, Tt, Ff, Ff, Ff] rfl rfl (one_of HT_.out (by kernel_rfl)) (by decide) (fun K hK => ?_)
                      refine goes_ Try.func78 (by kernel_rfl) rfl #[.agg #[.int .i64 a0_0, .int .i64 a0_1, .slice A0_2 l0_2.length c0_2, .slice A0_3 l0_3.length c0_3], .bool true, .int .i64 (wrap64 ((Int.tmod (rd x8_2 x11_2) a0_0) + 1)), .int .i64 (wrap64 (Int.tdiv (rd x8_2 x11_2) a0_0))] (by rfl) rfl rfl ob_ ?_
                      with_reducible refine (spec_fiHas.calls k3 a0_0 a0_1 _ _ l0_2 _ _ l0_3 true (wrap64 ((Int.tmod (rd x8_2 x11_2) a0_0) + 1)) (wrap64 (Int.tdiv (rd x8_2 x11_2) a0_0)) t332 _ ?side1 ?side2 ?side3 ?side4 A30.out).mono ?_
                      (case side1 => exact kc_ (Kd.C_below HR0_2.out HB.out))
                      (case side2 => exact HC0_2.out)
                      (case side3 => exact kc_ (Kd.C_below HR0_3.out HB.out))
                      (case side4 => exact HC0_3.out)
                      rintro e w41 ⟨rfl, hb⟩
                      refine ⟨_, rfl, ?_⟩
                      have n0_ := Aside0.mk (Kd.R_below (kr_ HO_5.out) hb)
                      have n1_ := Aside0.mk (Kd.S_below (by (with_reducible repeat (first | apply Kd.S_alloc | apply Kd.S_drewN | apply Kd.S_drew)); exact HO_6.out) hb)
                      have n2_ := Aside0.mk (Kd.R_below (kr_ HO_8.out) hb)
                      have n3_ := Aside0.mk (Kd.R_below (kr_ HO_9.out) hb)
                      have n4_ := Aside0.mk (bb_ BK313.out hb)
                      have n5_ := Aside0.mk (below_step (bl1_ HB.out GE313.out) hb)
                      clear HO_5
                      clear HO_6
                      clear HO_8
                      clear HO_9
                      clear BK313
                      clear HB
                      have HO_5 := n0_
                      have HO_6 := n1_
                      have HO_8 := n2_
                      have HO_9 := n3_
                      have BK313 := n4_
                      have HB := n5_
                      clear n0_ n1_ n2_ n3_ n4_ n5_
                      (try clear hb)
                      (try clear hb2)
                      (try clear hk)
                      (try clear hi)
                      refine hK.out _ _ ⟨(blk_cell BK313.out 0).trans rfl, (blk_cell BK313.out 1).trans rfl, (blk_cell BK313.out 2).trans rfl, (blk_cell BK313.out 3).trans rfl⟩ (fun hHeld => ?_)
                      clear hK K
                      refine norm_ (a' := _) ap_ ?_
                      refine one_ (i := 13) (N := some 81) #[Tt, Tt, Tt, Tt, Tt, Tt, Tt, Tt, Tt, Tt, Tt, Tt, Tt, Tt, Tt, Tt, Tt, Ff, Ff, Tt, Ff, Ff, Ff] rfl rfl (one_of HT_.out (by kernel_rfl)) (by decide) (fun K hK => ?_)
                      refine goes_ Try.func78 (by kernel_rfl) rfl #[.agg #[.int .i64 a0_0, .int .i64 a0_1, .slice A0_2 l0_2.length c0_2, .slice A0_3 l0_3.length c0_3], .bool false, .int .i64 (Int.tmod (rd x8_2 x11_2) a0_0), .int .i64 (wrap64 ((wrap64 (Int.tdiv (rd x8_2 x11_2) a0_0)) + 1))] (by rfl) rfl rfl ob_ ?_
                      with_reducible refine (spec_fiHas.calls k3 a0_0 a0_1 _ _ l0_2 _ _ l0_3 false (Int.tmod (rd x8_2 x11_2) a0_0) (wrap64 ((wrap64 (Int.tdiv (rd x8_2 x11_2) a0_0)) + 1)) t333 _ ?side1 ?side2 ?side3 ?side4 A31.out).mono ?_
                      (case side1 => exact kc_ (Kd.C_below HR0_2.out HB.out))
                      (case side2 => exact HC0_2.out)
                      (case side3 => exact kc_ (Kd.C_below HR0_3.out HB.out))
                      (case side4 => exact HC0_3.out)
                      rintro e w42 ⟨rfl, hb⟩
                      refine ⟨_, rfl, ?_⟩
                      have n0_ := Aside0.mk (Kd.R_below (kr_ HO_5.out) hb)
                      have n1_ := Aside0.mk (Kd.S_below (by (with_reducible repeat (first | apply Kd.S_alloc | apply Kd.S_drewN | apply Kd.S_drew)); exact HO_6.out) hb)
                      have n2_ := Aside0.mk (Kd.R_below (kr_ HO_8.out) hb)
                      have n3_ := Aside0.mk (Kd.R_below (kr_ HO_9.out) hb)
                      have n4_ := Aside0.mk (bb_ BK313.out hb)
                      have n5_ := Aside0.mk (below_step (bl1_ HB.out GE313.out) hb)
                      clear HO_5
                      clear HO_6
                      clear HO_8
                      clear HO_9
                      clear BK313
                      clear HB
                      have HO_5 := n0_
                      have HO_6 := n1_
                      have HO_8 := n2_
                      have HO_9 := n3_
                      have BK313 := n4_
                      have HB := n5_
                      clear n0_ n1_ n2_ n3_ n4_ n5_
                      (try clear hb)
                      (try clear hb2)
                      (try clear hk)
                      (try clear hi)
                      refine hK.out _ _ ⟨(blk_cell BK313.out 0).trans rfl, (blk_cell BK313.out 1).trans rfl, (blk_cell BK313.out 2).trans rfl, (blk_cell BK313.out 3).trans rfl⟩ (fun hHeld => ?_)
                      clear hK K
                      refine norm_ (a' := _) ap_ ?_
                      refine one_ (i := 17) (N := some 85) #[Tt, Tt, Tt, Tt, Tt, Tt, Tt, Tt, Tt, Tt, Tt, Tt, Tt, Tt, Tt, Tt, Tt, Tt, Ff, Tt, Ff, Ff, Ff] rfl rfl (one_of HT_.out (by kernel_rfl)) (by decide) (fun K hK => ?_)
                      refine goes_ Try.func78 (by kernel_rfl) rfl #[.agg #[.int .i64 a0_0, .int .i64 a0_1, .slice A0_2 l0_2.length c0_2, .slice A0_3 l0_3.length c0_3], .bool true, .int .i64 (Int.tmod (rd x8_2 x11_2) a0_0), .int .i64 (wrap64 (Int.tdiv (rd x8_2 x11_2) a0_0))] (by rfl) rfl rfl ob_ ?_
                      with_reducible refine (spec_fiHas.calls k3 a0_0 a0_1 _ _ l0_2 _ _ l0_3 true (Int.tmod (rd x8_2 x11_2) a0_0) (wrap64 (Int.tdiv (rd x8_2 x11_2) a0_0)) t334 _ ?side1 ?side2 ?side3 ?side4 A32.out).mono ?_
                      (case side1 => exact kc_ (Kd.C_below HR0_2.out HB.out))
                      (case side2 => exact HC0_2.out)
                      (case side3 => exact kc_ (Kd.C_below HR0_3.out HB.out))
                      (case side4 => exact HC0_3.out)
                      rintro e w43 ⟨rfl, hb⟩
                      refine ⟨_, rfl, ?_⟩
                      have n0_ := Aside0.mk (Kd.R_below (kr_ HO_5.out) hb)
                      have n1_ := Aside0.mk (Kd.S_below (by (with_reducible repeat (first | apply Kd.S_alloc | apply Kd.S_drewN | apply Kd.S_drew)); exact HO_6.out) hb)
                      have n2_ := Aside0.mk (Kd.R_below (kr_ HO_8.out) hb)
                      have n3_ := Aside0.mk (Kd.R_below (kr_ HO_9.out) hb)
                      have n4_ := Aside0.mk (bb_ BK313.out hb)
                      have n5_ := Aside0.mk (below_step (bl1_ HB.out GE313.out) hb)
                      clear HO_5
                      clear HO_6
                      clear HO_8
                      clear HO_9
                      clear BK313
                      clear HB
                      have HO_5 := n0_
                      have HO_6 := n1_
                      have HO_8 := n2_
                      have HO_9 := n3_
                      have BK313 := n4_
                      have HB := n5_
                      clear n0_ n1_ n2_ n3_ n4_ n5_
                      (try clear hb)
                      (try clear hb2)
                      (try clear hk)
                      (try clear hi)
                      refine hK.out _ _ ⟨(blk_cell BK313.out 0).trans rfl, (blk_cell BK313.out 1).trans rfl, (blk_cell BK313.out 2).trans rfl, (blk_cell BK313.out 3).trans rfl⟩ (fun hHeld => ?_)
                      clear hK K
                      refine norm_ (a' := _) ap_ ?_
                      refine one_ (i := 18) (N := some 86) #[Tt, Tt, Tt, Tt, Tt, Tt, Tt, Tt, Tt, Tt, Tt, Tt, Tt, Tt, Tt, Tt, Tt, Tt, Tt, Tt, Ff, Ff, Ff] rfl rfl (one_of HT_.out (by kernel_rfl)) (by decide) (fun K hK => ?_)
                      refine Kd.R_lit_step Kd.bool _ 4 ?hg (N := 86) ?hd (xs := ([t331, t332, t333, t334] : List Bool)) (inner := [.bool t331, .bool t332, .bool t333, .bool t334]) (ok := fun _ => True) (okp := fun _ => True) ?hr ?hp (fun _ hk => hk) trivial (Below.refl _ _) (Nat.le_refl _) (by simp) ?_; (case hd => rfl); (case hg => rfl); (case hr => first | (go_simp; done) | (go_simp; rfl)); (case hp => exact (Reps.one (show Kd.M Kd.bool _ _ _ t331 [.bool t331] from rfl) (Reps.one (show Kd.M Kd.bool _ _ _ t332 [.bool t332] from rfl) (Reps.one (show Kd.M Kd.bool _ _ _ t333 [.bool t333] from rfl) (Reps.one (show Kd.M Kd.bool _ _ _ t334 [.bool t334] from rfl) (Reps.none _ _))))))
                      intro v336 w44 ho45 hb hg_ hnew_
                      clear hg_ hnew_
                      (first | rw [← Ny335.out] at ho45 | (simp only [Int.reduceToNat] at ho45; rw [← Ny335.out] at ho45))
                      have n0_ := Aside0.mk (Kd.R_elder' (kr_ HO_5.out) (Kd.R_base ho45) hb)
                      have n1_ := Aside0.mk (Kd.S_below (by (with_reducible repeat (first | apply Kd.S_alloc | apply Kd.S_drewN | apply Kd.S_drew)); exact HO_6.out) hb)
                      have n2_ := Aside0.mk (Kd.R_below (kr_ HO_8.out) hb)
                      have n3_ := Aside0.mk (Kd.R_below (kr_ HO_9.out) hb)
                      have n4_ := Aside0.mk (Kd.R_lower (Kd.R_new' ho45 (Kd.R_lt (kr_ HO_5.out))) (below_size (bl1_ HB.out GE313.out)))
                      have n5_ := Aside0.mk (bb_ BK313.out hb)
                      have n6_ := Aside0.mk (below_step (bl1_ HB.out GE313.out) hb)
                      clear HO_5
                      clear HO_6
                      clear HO_8
                      clear HO_9
                      clear BK313
                      clear HB
                      have HO_5 := n0_
                      have HO_6 := n1_
                      have HO_8 := n2_
                      have HO_9 := n3_
                      have HO337 := n4_
                      have BK313 := n5_
                      have HB := n6_
                      clear n0_ n1_ n2_ n3_ n4_ n5_ n6_
                      clear hb ho45
                      obtain ⟨Ao46, co46, eo46⟩ := Kd.R_slice HO337.out
                      subst eo46
                      obtain ⟨ado46, fo46, _⟩ := Kd.at_bool (Kd.R_reads' HO337.out).2.2 0 (by decide) (by rw [Ny335.out]; simp)
                      cases fo46
                      refine hK.out _ _ ⟨(blk_cell BK313.out 0).trans rfl, (blk_cell BK313.out 1).trans rfl, (blk_cell BK313.out 2).trans rfl, (blk_cell BK313.out 3).trans rfl⟩ (fun hHeld => ?_)
                      clear hK K
                      refine norm_ (a' := _) ap_ ?_
                      refine pZ (i := 20) (N := some 88) #[Tt, Tt, Tt, Tt, Tt, Tt, Tt, Tt, Tt, Tt, Tt, Tt, Tt, Tt, Tt, Tt, Tt, Tt, Tt, Tt, Tt, Ff, Ff] ?_
                      refine one_ (i := 21) (N := some 89) #[Tt, Tt, Tt, Tt, Tt, Tt, Tt, Tt, Tt, Tt, Tt, Tt, Tt, Tt, Tt, Tt, Tt, Tt, Tt, Tt, Tt, Tt, Ff] rfl rfl (one_of HT_.out (by kernel_rfl)) (by decide) (fun K hK => ?_)
                      (have p338 : 0 ≤ (x14_3 : Int) := of_decide_eq_true as_; have q338 : x14_3 < (y335.length : Int) := of_decide_eq_true as_; obtain ⟨ad338, e338, hx338_0⟩ := Kd.at_bool (Kd.R_reads' HO337.out).2.2 x14_3 p338 q338; obtain rfl : ado46 = ad338 := (by injection e338)); (try rw [← Nbq37.out] at hx338_0)
                      refine value_ (w1 := ?_) (v := ?_) (by rfl) rfl ?_ ?_
                      rotate_left 2
                      ·go_simp
                       constructor
                       ·rfl
                       ·rfl
                      clear hx338_0
                      refine hK.out _ _ ⟨(blk_cell BK313.out 0).trans rfl, (blk_cell BK313.out 1).trans rfl, (blk_cell BK313.out 2).trans rfl, (blk_cell BK313.out 3).trans rfl⟩ (fun hHeld => ?_)
                      clear hK K
                      refine norm_ (a' := _) ap_ ?_
                      refine pZ (i := 22) (N := some 15) #[Tt, Tt, Tt, Tt, Tt, Tt, Tt, Tt, Tt, Tt, Tt, Tt, Tt, Tt, Tt, Tt, Tt, Tt, Tt, Tt, Tt, Tt, Tt] ?_
                      refine done_ (done_of HT_.out (by kernel_rfl)) ?_
                      try go_wp2
                      have pi342 : (0 ≤ (x14_3 : Int)) = True := eq_true (of_decide_eq_true as_)
                      have qi342 : (x14_3 < (y339.length : Int)) = True := eq_true (of_decide_eq_true as_)
                      have pi346 : (0 ≤ (x14_3 : Int)) = True := eq_true (of_decide_eq_true as_)
                      have qi346 : (x14_3 < (y343.length : Int)) = True := eq_true (of_decide_eq_true as_)
                      have n0_ := Aside0.mk (Kd.R_drew HO_5.out)
                      have n1_ := Aside0.mk (Kd.S_drew HO_6.out)
                      have n2_ := Aside0.mk (Kd.R_drew HO_8.out)
                      have n3_ := Aside0.mk (Kd.R_drew HO_9.out)
                      have n4_ := Aside0.mk (Kd.R_drew HO337.out)
                      have n5_ := Aside0.mk (blk_drew BK313.out)
                      have n6_ := Aside0.mk (below_drew1 HB.out)
                      clear HO_5
                      clear HO_6
                      clear HO_8
                      clear HO_9
                      clear HO337
                      clear BK313
                      clear HB
                      have HO_5 := n0_
                      have HO_6 := n1_
                      have HO_8 := n2_
                      have HO_9 := n3_
                      have HO337 := n4_
                      have BK313 := n5_
                      have HB := n6_
                      clear n0_ n1_ n2_ n3_ n4_ n5_ n6_
                      refine start_ (n := 14) (S := fun w' => True) (ds := []) #[Ff, Ff, Ff, Ff, Ff, Ff, Ff, Ff, Ff, Ff, Ff, Ff, Ff, Ff] (by kernel_rfl) rfl rfl trivial (fun hHeld => ?_); refine with_tabW spec_liRegions.tab21 spec_liRegions.bits21 (fun HT_ HW_ => ?_)
                      generalize w44.drew = w47 at HO_5 HO_6 HO_8 HO_9 HO337 BK313 HB hHeld ⊢
                      refine pZ (i := 0) (N := some 90) #[Tt, Ff, Ff, Ff, Ff, Ff, Ff, Ff, Ff, Ff, Ff, Ff, Ff, Ff] ?_
                      refine pZ (i := 2) (N := some 92) #[Tt, Ff, Tt, Ff, Ff, Ff, Ff, Ff, Ff, Ff, Ff, Ff, Ff, Ff] ?_
                      refine pZ (i := 6) (N := some 96) #[Tt, Ff, Tt, Ff, Ff, Ff, Tt, Ff, Ff, Ff, Ff, Ff, Ff, Ff] ?_
                      refine pZ (i := 8) (N := some 98) #[Tt, Ff, Tt, Ff, Ff, Ff, Tt, Ff, Tt, Ff, Ff, Ff, Ff, Ff] ?_
                      refine inv_at [1, 3, 4, 5, 7, 9, 10, 11, 12, 13] (fun a0_ b a w' => ∃ (v340 : Value) (adz_v340 : Addr) (v344 : Value) (adz_v344 : Addr) (m3_ : Value) (m9_ : Value), a = putSel a0_ b [(1, 91, v340), (3, 93, m3_), (4, 94, .int .i64 (rd y339 x14_3)), (5, 95, .int .i64 (wrap64 ((Int.tmod (rd x8_2 x11_2) a0_0) + (rd y339 x14_3)))), (7, 97, v344), (9, 99, m9_), (10, 100, .int .i64 (rd y343 x14_3)), (11, 101, .int .i64 (wrap64 ((wrap64 (Int.tdiv (rd x8_2 x11_2) a0_0)) + (rd y343 x14_3)))), (12, 16, .int .i64 (wrap64 ((Int.tmod (rd x8_2 x11_2) a0_0) + (rd y339 x14_3)))), (13, 17, .int .i64 (wrap64 ((wrap64 (Int.tdiv (rd x8_2 x11_2) a0_0)) + (rd y343 x14_3))))] ∧ (Kd.R Kd.bool 4 w' w.heap.size (fun k_ => some k_ ≠ (.slice (some ⟨go15, 0, none⟩) x5_3.length co9 : Value).ownBlock) (.slice (some ado46) y335.length co46) y335) ∧ (Kd.R Kd.bool 4 w' w.heap.size (fun k_ => some k_ ≠ (.slice (some ado46) y335.length co46 : Value).ownBlock) (.slice (some ⟨go15, 0, none⟩) x5_3.length co9) x5_3) ∧ (Kd.S (Kd.slice 3 (Kd.int .i64)) 22 w' w.heap.size (fun k_ => some k_ ≠ (u8 : Value).ownBlock ∧ some k_ ≠ (v329 : Value).ownBlock) u6 x6_1) ∧ (Kd.R (Kd.int .i64) 3 w' w.heap.size (fun k_ => some k_ ≠ (v329 : Value).ownBlock) u8 x8_3) ∧ (Kd.R (Kd.int .i64) 3 w' w.heap.size (fun k_ => some k_ ≠ (u8 : Value).ownBlock) v329 t328) ∧ (w'.heap[gb313]? = some (.cells #[.int .i64 a0_0, .int .i64 a0_1, .slice A0_2 l0_2.length c0_2, .slice A0_3 l0_3.length c0_3] 28 (0, 0))) ∧ (Below w.heap.size w w') ∧ (b 1 = true → Kd.R (Kd.int .i64) 3 w' w.heap.size (fun k_ => some k_ ≠ (u8 : Value).ownBlock ∧ some k_ ≠ (v329 : Value).ownBlock) v340 y339) ∧ (b 1 = true → ∃ c_, (v340 : Value) = .slice (some adz_v340) y339.length c_) ∧ (b 7 = true → Kd.R (Kd.int .i64) 3 w' w.heap.size (fun k_ => some k_ ≠ (u8 : Value).ownBlock ∧ some k_ ≠ (v329 : Value).ownBlock) v344 y343) ∧ (b 7 = true → ∃ c_, (v344 : Value) = .slice (some adz_v344) y343.length c_) ∧ (b 3 = true → (m3_ : Value) = .pointer (some (adz_v340.add (x14_3).toNat))) ∧ (b 9 = true → (m9_ : Value) = .pointer (some (adz_v344.add (x14_3).toNat)))) HT_.out HW_.out (by kernel_rfl) (by kernel_rfl) ?_ ?_ ?_
                      ·exact ⟨.bool false, ⟨0, 0, none⟩, .bool false, ⟨0, 0, none⟩, .bool false, .bool false, by simp only [putSel, Bool.false_eq_true, if_false], (Kd.R_mono HO337.out (fun _ hk => by and_intros <;> first | exact hk | exact hk.1 | exact hk.2 | exact hk.1.1 | exact hk.1.2 | exact hk.2.1 | exact hk.2.2 | trivial)), (Kd.R_mono HO_5.out (fun _ hk => by and_intros <;> first | exact hk | exact hk.1 | exact hk.2 | exact hk.1.1 | exact hk.1.2 | exact hk.2.1 | exact hk.2.2 | trivial)), HO_6.out, HO_8.out, HO_9.out, BK313.out, HB.out, fun h_ => absurd h_ (by decide), fun h_ => absurd h_ (by decide), fun h_ => absurd h_ (by decide), fun h_ => absurd h_ (by decide), fun h_ => absurd h_ (by decide), fun h_ => absurd h_ (by decide)⟩
                      ·skip
                       clear BK313 HB HO337 HO_5 HO_6 HO_8 HO_9
                       refine steps_cons ?_ ?_
                       ·rintro b a w' ⟨v340, adz_v340, v344, adz_v344, m3_, m9_, ha, Q_HO337, Q_HO_5, Q_HO_6, Q_HO_8, Q_HO_9, Q_BK313, Q_HB, Q_HO341, Q_HA_HO341, Q_HO345, Q_HA_HO345, Q_X3_, Q_X9_⟩ hb_ hon hoff
                        refine ⟨_, rfl, fun K hK => ?_⟩
                        replace ha := Aside0.mk ha
                        have HO337 := Aside0.mk Q_HO337
                        have HO_5 := Aside0.mk Q_HO_5
                        have HO_6 := Aside0.mk Q_HO_6
                        have HO_8 := Aside0.mk Q_HO_8
                        have HO_9 := Aside0.mk Q_HO_9
                        have BK313 := Aside0.mk Q_BK313
                        have HB := Aside0.mk Q_HB
                        refine Kd.R_lit_step (Kd.int .i64) _ 3 ?hg (N := 91) ?hd (xs := ([0, 1, 0, (-1)] : List Int)) (inner := [.int .i64 0, .int .i64 1, .int .i64 0, .int .i64 (-1)]) (ok := fun _ => True) (okp := fun _ => True) ?hr ?hp (fun _ hk => hk) trivial (Below.refl _ _) (Nat.le_refl _) (by simp) ?_; (case hd => rfl); (case hg => rfl); (case hr => first | (go_simp; done) | (go_simp; rfl)); (case hp => exact (Reps.one (show Kd.M (Kd.int .i64) _ _ _ 0 [.int .i64 0] from rfl) (Reps.one (show Kd.M (Kd.int .i64) _ _ _ 1 [.int .i64 1] from rfl) (Reps.one (show Kd.M (Kd.int .i64) _ _ _ 0 [.int .i64 0] from rfl) (Reps.one (show Kd.M (Kd.int .i64) _ _ _ (-1) [.int .i64 (-1)] from rfl) (Reps.none _ _))))))
                        intro v340 w48 ho49 hb hg_ hnew_
                        clear hg_ hnew_
                        (first | rw [← Ny339.out] at ho49 | (simp only [Int.reduceToNat] at ho49; rw [← Ny339.out] at ho49))
                        have n0_ := Aside0.mk (Kd.R_below (kr_ HO_5.out) hb)
                        have n1_ := Aside0.mk (Kd.S_elder' (by (with_reducible repeat (first | apply Kd.S_alloc | apply Kd.S_drewN | apply Kd.S_drew)); exact HO_6.out) (Kd.R_base ho49) hb)
                        have n2_ := Aside0.mk (Kd.R_elder' (kr_ HO_8.out) (Kd.R_base ho49) hb)
                        have n3_ := Aside0.mk (Kd.R_elder' (kr_ HO_9.out) (Kd.R_base ho49) hb)
                        have n4_ := Aside0.mk (Kd.R_below (kr_ HO337.out) hb)
                        have n5_ := Aside0.mk (Kd.R_lower (Kd.R_new' (Kd.R_new' ho49 (Kd.R_lt (kr_ HO_8.out))) (Kd.R_lt (kr_ HO_9.out))) (below_size (bl1_ HB.out GE313.out)))
                        have n6_ := Aside0.mk (bb_ BK313.out hb)
                        have n7_ := Aside0.mk (below_step (bl1_ HB.out GE313.out) hb)
                        have z_HO345 := fun (h0_ : b 7 = true) => (show Kd.R (Kd.int .i64) 3 w48 w.heap.size (fun k_ => some k_ ≠ (u8 : Value).ownBlock ∧ some k_ ≠ (v329 : Value).ownBlock) v344 y343 from by first | exact (Kd.R_elder' (by (with_reducible repeat (first | apply Kd.R_alloc | apply Kd.R_drewN | apply Kd.R_drew)); exact (Q_HO345 h0_)) (Kd.R_base ho49) hb) | exact Kd.R_mono (Kd.R_elder' (by (with_reducible repeat (first | apply Kd.R_alloc | apply Kd.R_drewN | apply Kd.R_drew)); exact (Q_HO345 h0_)) (Kd.R_base ho49) hb) (fun _ h_ => by first | trivial | exact h_ | exact h_.1))
                        clear HO_5
                        clear HO_6
                        clear HO_8
                        clear HO_9
                        clear HO337
                        clear BK313
                        clear HB
                        have HO_5 := n0_
                        have HO_6 := n1_
                        have HO_8 := n2_
                        have HO_9 := n3_
                        have HO337 := n4_
                        have HO341 := n5_
                        have BK313 := n6_
                        have HB := n7_
                        clear n0_ n1_ n2_ n3_ n4_ n5_ n6_ n7_
                        clear hb ho49
                        obtain ⟨Ao50, co50, eo50⟩ := Kd.R_slice HO341.out
                        subst eo50
                        obtain ⟨ado50, fo50, _⟩ := Kd.at_int (Kd.R_reads' HO341.out).2.2 0 (by decide) (by rw [Ny339.out]; simp)
                        cases fo50
                        refine hK.out _ _ ⟨.slice (some ado50) y339.length co50, ado50, v344, adz_v344, m3_, m9_, (by rw [ha.out]; exact putSel_upk 0 hb_ rfl rfl rfl), (by (with_reducible repeat (first | apply Kd.R_alloc | apply Kd.R_drewN | apply Kd.R_drew)); exact Kd.R_mono HO337.out (fun _ hk => by and_intros <;> first | exact hk | exact hk.1 | exact hk.2 | exact hk.1.1 | exact hk.1.2 | exact hk.2.1 | exact hk.2.2 | trivial)), (by (with_reducible repeat (first | apply Kd.R_alloc | apply Kd.R_drewN | apply Kd.R_drew)); exact Kd.R_mono HO_5.out (fun _ hk => by and_intros <;> first | exact hk | exact hk.1 | exact hk.2 | exact hk.1.1 | exact hk.1.2 | exact hk.2.1 | exact hk.2.2 | trivial)), (by (with_reducible repeat (first | apply Kd.S_alloc | apply Kd.S_drewN | apply Kd.S_drew)); exact Kd.S_mono HO_6.out (fun _ hk => by and_intros <;> first | exact hk | exact hk.1 | exact hk.2 | exact hk.1.1 | exact hk.1.2 | exact hk.2.1 | exact hk.2.2 | trivial)), (by (with_reducible repeat (first | apply Kd.R_alloc | apply Kd.R_drewN | apply Kd.R_drew)); exact Kd.R_mono HO_8.out (fun _ hk => by and_intros <;> first | exact hk | exact hk.1 | exact hk.2 | exact hk.1.1 | exact hk.1.2 | exact hk.2.1 | exact hk.2.2 | trivial)), (by (with_reducible repeat (first | apply Kd.R_alloc | apply Kd.R_drewN | apply Kd.R_drew)); exact Kd.R_mono HO_9.out (fun _ hk => by and_intros <;> first | exact hk | exact hk.1 | exact hk.2 | exact hk.1.1 | exact hk.1.2 | exact hk.2.1 | exact hk.2.2 | trivial)), (bk_ BK313.out), (bl1_ HB.out GE313.out), fun _ => (by (with_reducible repeat (first | apply Kd.R_alloc | apply Kd.R_drewN | apply Kd.R_drew)); exact Kd.R_mono HO341.out (fun _ hk => by and_intros <;> first | exact hk | exact hk.1 | exact hk.2 | exact hk.1.1 | exact hk.1.2 | exact hk.2.1 | exact hk.2.2 | trivial)), fun _ => ⟨_, rfl⟩, z_HO345, Q_HA_HO345, fun h0_ => absurd ((hoff 3 (by kernel_rfl)).symm.trans h0_) (by decide), Q_X9_⟩
                       refine steps_cons ?_ ?_
                       ·rintro b a w' ⟨v340, adz_v340, v344, adz_v344, m3_, m9_, ha, Q_HO337, Q_HO_5, Q_HO_6, Q_HO_8, Q_HO_9, Q_BK313, Q_HB, Q_HO341, Q_HA_HO341, Q_HO345, Q_HA_HO345, Q_X3_, Q_X9_⟩ hb_ hon hoff
                        refine ⟨_, rfl, fun K hK => ?_⟩
                        have e91 : a.tmps[91]? = some (v340) := by rw [ha]; exact putSel_on (e := (1, 91, v340)) 0 rfl rfl (hon 1 (by kernel_rfl)) rfl
                        have e92 : a.tmps[92]? = some (.int .i64 x14_3) := by rw [ha]; exact (putSel_off rfl).trans rfl
                        replace ha := Aside0.mk ha
                        have HO337 := Aside0.mk Q_HO337
                        have HO_5 := Aside0.mk Q_HO_5
                        have HO_6 := Aside0.mk Q_HO_6
                        have HO_8 := Aside0.mk Q_HO_8
                        have HO_9 := Aside0.mk Q_HO_9
                        have BK313 := Aside0.mk Q_BK313
                        have HB := Aside0.mk Q_HB
                        have HO341 := Aside0.mk (Q_HO341 (hon 1 (by kernel_rfl)))
                        have HA_HO341 := Aside0.mk (Q_HA_HO341 (hon 1 (by kernel_rfl)))
                        obtain ⟨c_, hv_⟩ := HA_HO341.out
                        rw [hv_] at e91
                        refine value_ (w1 := w') (v := .pointer (some (adz_v340.add (x14_3).toNat))) (by rfl) rfl ?_ ?_
                        ·go_simp
                         (try simp only [i64_w])
                         try rfl
                        refine hK.out _ _ ⟨v340, adz_v340, v344, adz_v344, (.pointer (some (adz_v340.add (x14_3).toNat))), m9_, (by rw [ha.out]; exact putSel_upk 1 hb_ rfl rfl rfl), Q_HO337, Q_HO_5, Q_HO_6, Q_HO_8, Q_HO_9, Q_BK313, Q_HB, Q_HO341, Q_HA_HO341, Q_HO345, Q_HA_HO345, fun _ => rfl, Q_X9_⟩
                       refine steps_cons ?_ ?_
                       ·rintro b a w' ⟨v340, adz_v340, v344, adz_v344, m3_, m9_, ha, Q_HO337, Q_HO_5, Q_HO_6, Q_HO_8, Q_HO_9, Q_BK313, Q_HB, Q_HO341, Q_HA_HO341, Q_HO345, Q_HA_HO345, Q_X3_, Q_X9_⟩ hb_ hon hoff
                        refine ⟨_, rfl, fun K hK => ?_⟩
                        have e93 : a.tmps[93]? = some (m3_) := by rw [ha]; exact putSel_on (e := (3, 93, m3_)) 1 rfl rfl (hon 3 (by kernel_rfl)) rfl
                        rw [Q_X3_ (hon 3 (by kernel_rfl))] at e93
                        replace ha := Aside0.mk ha
                        have HO337 := Aside0.mk Q_HO337
                        have HO_5 := Aside0.mk Q_HO_5
                        have HO_6 := Aside0.mk Q_HO_6
                        have HO_8 := Aside0.mk Q_HO_8
                        have HO_9 := Aside0.mk Q_HO_9
                        have BK313 := Aside0.mk Q_BK313
                        have HB := Aside0.mk Q_HB
                        have HO341 := Aside0.mk (Q_HO341 (hon 1 (by kernel_rfl)))
                        have HA_HO341 := Aside0.mk (Q_HA_HO341 (hon 1 (by kernel_rfl)))
                        obtain ⟨c_, hv_⟩ := HA_HO341.out
                        have hF_ := HO341.out
                        rw [hv_] at hF_
                        obtain ⟨ad_, ea_, hx_⟩ := Kd.at_int (Kd.R_reads' hF_).2.2 x14_3 (of_eq_true pi342) (of_eq_true qi342)
                        cases ea_
                        refine value_ (w1 := w') (v := .int .i64 (rd y339 x14_3)) (by rfl) rfl ?_ ?_
                        ·go_simp
                         (try simp only [i64_w])
                         try rfl
                        refine hK.out _ _ ⟨v340, adz_v340, v344, adz_v344, m3_, m9_, (by rw [ha.out]; exact putSel_upk 2 hb_ rfl rfl rfl), Q_HO337, Q_HO_5, Q_HO_6, Q_HO_8, Q_HO_9, Q_BK313, Q_HB, Q_HO341, Q_HA_HO341, Q_HO345, Q_HA_HO345, Q_X3_, Q_X9_⟩
                       refine steps_cons ?_ ?_
                       ·rintro b a w' ⟨v340, adz_v340, v344, adz_v344, m3_, m9_, ha, Q_HO337, Q_HO_5, Q_HO_6, Q_HO_8, Q_HO_9, Q_BK313, Q_HB, Q_HO341, Q_HA_HO341, Q_HO345, Q_HA_HO345, Q_X3_, Q_X9_⟩ hb_ hon hoff
                        refine ⟨_, rfl, fun K hK => ?_⟩
                        have e90 : a.tmps[90]? = some (.int .i64 (Int.tmod (rd x8_2 x11_2) a0_0)) := by rw [ha]; exact (putSel_off rfl).trans rfl
                        have e94 : a.tmps[94]? = some (.int .i64 (rd y339 x14_3)) := by rw [ha]; exact putSel_on (e := (4, 94, .int .i64 (rd y339 x14_3))) 2 rfl rfl (hon 4 (by kernel_rfl)) rfl
                        replace ha := Aside0.mk ha
                        have HO337 := Aside0.mk Q_HO337
                        have HO_5 := Aside0.mk Q_HO_5
                        have HO_6 := Aside0.mk Q_HO_6
                        have HO_8 := Aside0.mk Q_HO_8
                        have HO_9 := Aside0.mk Q_HO_9
                        have BK313 := Aside0.mk Q_BK313
                        have HB := Aside0.mk Q_HB
                        have HO341 := Aside0.mk (Q_HO341 (hon 1 (by kernel_rfl)))
                        have HA_HO341 := Aside0.mk (Q_HA_HO341 (hon 1 (by kernel_rfl)))
                        refine value_ (w1 := w') (v := .int .i64 (wrap64 ((Int.tmod (rd x8_2 x11_2) a0_0) + (rd y339 x14_3)))) (by rfl) rfl ?_ ?_
                        ·go_simp
                         (try simp only [i64_w])
                         try rfl
                        refine hK.out _ _ ⟨v340, adz_v340, v344, adz_v344, m3_, m9_, (by rw [ha.out]; exact putSel_upk 3 hb_ rfl rfl rfl), Q_HO337, Q_HO_5, Q_HO_6, Q_HO_8, Q_HO_9, Q_BK313, Q_HB, Q_HO341, Q_HA_HO341, Q_HO345, Q_HA_HO345, Q_X3_, Q_X9_⟩
                       refine steps_cons ?_ ?_
                       ·rintro b a w' ⟨v340, adz_v340, v344, adz_v344, m3_, m9_, ha, Q_HO337, Q_HO_5, Q_HO_6, Q_HO_8, Q_HO_9, Q_BK313, Q_HB, Q_HO341, Q_HA_HO341, Q_HO345, Q_HA_HO345, Q_X3_, Q_X9_⟩ hb_ hon hoff
                        refine ⟨_, rfl, fun K hK => ?_⟩
                        replace ha := Aside0.mk ha
                        have HO337 := Aside0.mk Q_HO337
                        have HO_5 := Aside0.mk Q_HO_5
                        have HO_6 := Aside0.mk Q_HO_6
                        have HO_8 := Aside0.mk Q_HO_8
                        have HO_9 := Aside0.mk Q_HO_9
                        have BK313 := Aside0.mk Q_BK313
                        have HB := Aside0.mk Q_HB
                        refine Kd.R_lit_step (Kd.int .i64) _ 3 ?hg (N := 97) ?hd (xs := ([(-1), 0, 1, 0] : List Int)) (inner := [.int .i64 (-1), .int .i64 0, .int .i64 1, .int .i64 0]) (ok := fun _ => True) (okp := fun _ => True) ?hr ?hp (fun _ hk => hk) trivial (Below.refl _ _) (Nat.le_refl _) (by simp) ?_; (case hd => rfl); (case hg => rfl); (case hr => first | (go_simp; done) | (go_simp; rfl)); (case hp => exact (Reps.one (show Kd.M (Kd.int .i64) _ _ _ (-1) [.int .i64 (-1)] from rfl) (Reps.one (show Kd.M (Kd.int .i64) _ _ _ 0 [.int .i64 0] from rfl) (Reps.one (show Kd.M (Kd.int .i64) _ _ _ 1 [.int .i64 1] from rfl) (Reps.one (show Kd.M (Kd.int .i64) _ _ _ 0 [.int .i64 0] from rfl) (Reps.none _ _))))))
                        intro v344 w48 ho49 hb hg_ hnew_
                        clear hg_ hnew_
                        (first | rw [← Ny343.out] at ho49 | (simp only [Int.reduceToNat] at ho49; rw [← Ny343.out] at ho49))
                        have n0_ := Aside0.mk (Kd.R_below (kr_ HO_5.out) hb)
                        have n1_ := Aside0.mk (Kd.S_elder' (by (with_reducible repeat (first | apply Kd.S_alloc | apply Kd.S_drewN | apply Kd.S_drew)); exact HO_6.out) (Kd.R_base ho49) hb)
                        have n2_ := Aside0.mk (Kd.R_elder' (kr_ HO_8.out) (Kd.R_base ho49) hb)
                        have n3_ := Aside0.mk (Kd.R_elder' (kr_ HO_9.out) (Kd.R_base ho49) hb)
                        have n4_ := Aside0.mk (Kd.R_below (kr_ HO337.out) hb)
                        have n5_ := Aside0.mk (Kd.R_lower (Kd.R_new' (Kd.R_new' ho49 (Kd.R_lt (kr_ HO_8.out))) (Kd.R_lt (kr_ HO_9.out))) (below_size (bl1_ HB.out GE313.out)))
                        have n6_ := Aside0.mk (bb_ BK313.out hb)
                        have n7_ := Aside0.mk (below_step (bl1_ HB.out GE313.out) hb)
                        have z_HO341 := fun (h0_ : b 1 = true) => (show Kd.R (Kd.int .i64) 3 w48 w.heap.size (fun k_ => some k_ ≠ (u8 : Value).ownBlock ∧ some k_ ≠ (v329 : Value).ownBlock) v340 y339 from by first | exact (Kd.R_elder' (by (with_reducible repeat (first | apply Kd.R_alloc | apply Kd.R_drewN | apply Kd.R_drew)); exact (Q_HO341 h0_)) (Kd.R_base ho49) hb) | exact Kd.R_mono (Kd.R_elder' (by (with_reducible repeat (first | apply Kd.R_alloc | apply Kd.R_drewN | apply Kd.R_drew)); exact (Q_HO341 h0_)) (Kd.R_base ho49) hb) (fun _ h_ => by first | trivial | exact h_ | exact h_.1))
                        clear HO_5
                        clear HO_6
                        clear HO_8
                        clear HO_9
                        clear HO337
                        clear BK313
                        clear HB
                        have HO_5 := n0_
                        have HO_6 := n1_
                        have HO_8 := n2_
                        have HO_9 := n3_
                        have HO337 := n4_
                        have HO345 := n5_
                        have BK313 := n6_
                        have HB := n7_
                        clear n0_ n1_ n2_ n3_ n4_ n5_ n6_ n7_
                        clear hb ho49
                        obtain ⟨Ao50, co50, eo50⟩ := Kd.R_slice HO345.out
                        subst eo50
                        obtain ⟨ado50, fo50, _⟩ := Kd.at_int (Kd.R_reads' HO345.out).2.2 0 (by decide) (by rw [Ny343.out]; simp)
                        cases fo50
                        refine hK.out _ _ ⟨v340, adz_v340, .slice (some ado50) y343.length co50, ado50, m3_, m9_, (by rw [ha.out]; exact putSel_upk 4 hb_ rfl rfl rfl), (by (with_reducible repeat (first | apply Kd.R_alloc | apply Kd.R_drewN | apply Kd.R_drew)); exact Kd.R_mono HO337.out (fun _ hk => by and_intros <;> first | exact hk | exact hk.1 | exact hk.2 | exact hk.1.1 | exact hk.1.2 | exact hk.2.1 | exact hk.2.2 | trivial)), (by (with_reducible repeat (first | apply Kd.R_alloc | apply Kd.R_drewN | apply Kd.R_drew)); exact Kd.R_mono HO_5.out (fun _ hk => by and_intros <;> first | exact hk | exact hk.1 | exact hk.2 | exact hk.1.1 | exact hk.1.2 | exact hk.2.1 | exact hk.2.2 | trivial)), (by (with_reducible repeat (first | apply Kd.S_alloc | apply Kd.S_drewN | apply Kd.S_drew)); exact Kd.S_mono HO_6.out (fun _ hk => by and_intros <;> first | exact hk | exact hk.1 | exact hk.2 | exact hk.1.1 | exact hk.1.2 | exact hk.2.1 | exact hk.2.2 | trivial)), (by (with_reducible repeat (first | apply Kd.R_alloc | apply Kd.R_drewN | apply Kd.R_drew)); exact Kd.R_mono HO_8.out (fun _ hk => by and_intros <;> first | exact hk | exact hk.1 | exact hk.2 | exact hk.1.1 | exact hk.1.2 | exact hk.2.1 | exact hk.2.2 | trivial)), (by (with_reducible repeat (first | apply Kd.R_alloc | apply Kd.R_drewN | apply Kd.R_drew)); exact Kd.R_mono HO_9.out (fun _ hk => by and_intros <;> first | exact hk | exact hk.1 | exact hk.2 | exact hk.1.1 | exact hk.1.2 | exact hk.2.1 | exact hk.2.2 | trivial)), (bk_ BK313.out), (bl1_ HB.out GE313.out), z_HO341, Q_HA_HO341, fun _ => (by (with_reducible repeat (first | apply Kd.R_alloc | apply Kd.R_drewN | apply Kd.R_drew)); exact Kd.R_mono HO345.out (fun _ hk => by and_intros <;> first | exact hk | exact hk.1 | exact hk.2 | exact hk.1.1 | exact hk.1.2 | exact hk.2.1 | exact hk.2.2 | trivial)), fun _ => ⟨_, rfl⟩, Q_X3_, fun h0_ => absurd ((hoff 9 (by kernel_rfl)).symm.trans h0_) (by decide)⟩
                       refine steps_cons ?_ ?_
                       ·rintro b a w' ⟨v340, adz_v340, v344, adz_v344, m3_, m9_, ha, Q_HO337, Q_HO_5, Q_HO_6, Q_HO_8, Q_HO_9, Q_BK313, Q_HB, Q_HO341, Q_HA_HO341, Q_HO345, Q_HA_HO345, Q_X3_, Q_X9_⟩ hb_ hon hoff
                        refine ⟨_, rfl, fun K hK => ?_⟩
                        have e97 : a.tmps[97]? = some (v344) := by rw [ha]; exact putSel_on (e := (7, 97, v344)) 4 rfl rfl (hon 7 (by kernel_rfl)) rfl
                        have e98 : a.tmps[98]? = some (.int .i64 x14_3) := by rw [ha]; exact (putSel_off rfl).trans rfl
                        replace ha := Aside0.mk ha
                        have HO337 := Aside0.mk Q_HO337
                        have HO_5 := Aside0.mk Q_HO_5
                        have HO_6 := Aside0.mk Q_HO_6
                        have HO_8 := Aside0.mk Q_HO_8
                        have HO_9 := Aside0.mk Q_HO_9
                        have BK313 := Aside0.mk Q_BK313
                        have HB := Aside0.mk Q_HB
                        have HO345 := Aside0.mk (Q_HO345 (hon 7 (by kernel_rfl)))
                        have HA_HO345 := Aside0.mk (Q_HA_HO345 (hon 7 (by kernel_rfl)))
                        obtain ⟨c_, hv_⟩ := HA_HO345.out
                        rw [hv_] at e97
                        refine value_ (w1 := w') (v := .pointer (some (adz_v344.add (x14_3).toNat))) (by rfl) rfl ?_ ?_
                        ·go_simp
                         (try simp only [i64_w])
                         try rfl
                        refine hK.out _ _ ⟨v340, adz_v340, v344, adz_v344, m3_, (.pointer (some (adz_v344.add (x14_3).toNat))), (by rw [ha.out]; exact putSel_upk 5 hb_ rfl rfl rfl), Q_HO337, Q_HO_5, Q_HO_6, Q_HO_8, Q_HO_9, Q_BK313, Q_HB, Q_HO341, Q_HA_HO341, Q_HO345, Q_HA_HO345, Q_X3_, fun _ => rfl⟩
                       refine steps_cons ?_ ?_
                       ·rintro b a w' ⟨v340, adz_v340, v344, adz_v344, m3_, m9_, ha, Q_HO337, Q_HO_5, Q_HO_6, Q_HO_8, Q_HO_9, Q_BK313, Q_HB, Q_HO341, Q_HA_HO341, Q_HO345, Q_HA_HO345, Q_X3_, Q_X9_⟩ hb_ hon hoff
                        refine ⟨_, rfl, fun K hK => ?_⟩
                        have e99 : a.tmps[99]? = some (m9_) := by rw [ha]; exact putSel_on (e := (9, 99, m9_)) 5 rfl rfl (hon 9 (by kernel_rfl)) rfl
                        rw [Q_X9_ (hon 9 (by kernel_rfl))] at e99
                        replace ha := Aside0.mk ha
                        have HO337 := Aside0.mk Q_HO337
                        have HO_5 := Aside0.mk Q_HO_5
                        have HO_6 := Aside0.mk Q_HO_6
                        have HO_8 := Aside0.mk Q_HO_8
                        have HO_9 := Aside0.mk Q_HO_9
                        have BK313 := Aside0.mk Q_BK313
                        have HB := Aside0.mk Q_HB
                        have HO345 := Aside0.mk (Q_HO345 (hon 7 (by kernel_rfl)))
                        have HA_HO345 := Aside0.mk (Q_HA_HO345 (hon 7 (by kernel_rfl)))
                        obtain ⟨c_, hv_⟩ := HA_HO345.out
                        have hF_ := HO345.out
                        rw [hv_] at hF_
                        obtain ⟨ad_, ea_, hx_⟩ := Kd.at_int (Kd.R_reads' hF_).2.2 x14_3 (of_eq_true pi346) (of_eq_true qi346)
                        cases ea_
                        refine value_ (w1 := w') (v := .int .i64 (rd y343 x14_3)) (by rfl) rfl ?_ ?_
                        ·go_simp
                         (try simp only [i64_w])
                         try rfl
                        refine hK.out _ _ ⟨v340, adz_v340, v344, adz_v344, m3_, m9_, (by rw [ha.out]; exact putSel_upk 6 hb_ rfl rfl rfl), Q_HO337, Q_HO_5, Q_HO_6, Q_HO_8, Q_HO_9, Q_BK313, Q_HB, Q_HO341, Q_HA_HO341, Q_HO345, Q_HA_HO345, Q_X3_, Q_X9_⟩
                       refine steps_cons ?_ ?_
                       ·rintro b a w' ⟨v340, adz_v340, v344, adz_v344, m3_, m9_, ha, Q_HO337, Q_HO_5, Q_HO_6, Q_HO_8, Q_HO_9, Q_BK313, Q_HB, Q_HO341, Q_HA_HO341, Q_HO345, Q_HA_HO345, Q_X3_, Q_X9_⟩ hb_ hon hoff
                        refine ⟨_, rfl, fun K hK => ?_⟩
                        have e96 : a.tmps[96]? = some (.int .i64 (wrap64 (Int.tdiv (rd x8_2 x11_2) a0_0))) := by rw [ha]; exact (putSel_off rfl).trans rfl
                        have e100 : a.tmps[100]? = some (.int .i64 (rd y343 x14_3)) := by rw [ha]; exact putSel_on (e := (10, 100, .int .i64 (rd y343 x14_3))) 6 rfl rfl (hon 10 (by kernel_rfl)) rfl
                        replace ha := Aside0.mk ha
                        have HO337 := Aside0.mk Q_HO337
                        have HO_5 := Aside0.mk Q_HO_5
                        have HO_6 := Aside0.mk Q_HO_6
                        have HO_8 := Aside0.mk Q_HO_8
                        have HO_9 := Aside0.mk Q_HO_9
                        have BK313 := Aside0.mk Q_BK313
                        have HB := Aside0.mk Q_HB
                        have HO345 := Aside0.mk (Q_HO345 (hon 7 (by kernel_rfl)))
                        have HA_HO345 := Aside0.mk (Q_HA_HO345 (hon 7 (by kernel_rfl)))
                        refine value_ (w1 := w') (v := .int .i64 (wrap64 ((wrap64 (Int.tdiv (rd x8_2 x11_2) a0_0)) + (rd y343 x14_3)))) (by rfl) rfl ?_ ?_
                        ·go_simp
                         (try simp only [i64_w])
                         try rfl
                        refine hK.out _ _ ⟨v340, adz_v340, v344, adz_v344, m3_, m9_, (by rw [ha.out]; exact putSel_upk 7 hb_ rfl rfl rfl), Q_HO337, Q_HO_5, Q_HO_6, Q_HO_8, Q_HO_9, Q_BK313, Q_HB, Q_HO341, Q_HA_HO341, Q_HO345, Q_HA_HO345, Q_X3_, Q_X9_⟩
                       refine steps_cons ?_ ?_
                       ·rintro b a w' ⟨v340, adz_v340, v344, adz_v344, m3_, m9_, ha, Q_HO337, Q_HO_5, Q_HO_6, Q_HO_8, Q_HO_9, Q_BK313, Q_HB, Q_HO341, Q_HA_HO341, Q_HO345, Q_HA_HO345, Q_X3_, Q_X9_⟩ hb_ hon hoff
                        refine ⟨_, rfl, fun K hK => ?_⟩
                        have e95 : a.tmps[95]? = some (.int .i64 (wrap64 ((Int.tmod (rd x8_2 x11_2) a0_0) + (rd y339 x14_3)))) := by rw [ha]; exact putSel_on (e := (5, 95, .int .i64 (wrap64 ((Int.tmod (rd x8_2 x11_2) a0_0) + (rd y339 x14_3))))) 3 rfl rfl (hon 5 (by kernel_rfl)) rfl
                        replace ha := Aside0.mk ha
                        have HO337 := Aside0.mk Q_HO337
                        have HO_5 := Aside0.mk Q_HO_5
                        have HO_6 := Aside0.mk Q_HO_6
                        have HO_8 := Aside0.mk Q_HO_8
                        have HO_9 := Aside0.mk Q_HO_9
                        have BK313 := Aside0.mk Q_BK313
                        have HB := Aside0.mk Q_HB
                        have HO341 := Aside0.mk (Q_HO341 (hon 1 (by kernel_rfl)))
                        have HA_HO341 := Aside0.mk (Q_HA_HO341 (hon 1 (by kernel_rfl)))
                        refine value_ (w1 := w') (v := .int .i64 (wrap64 ((Int.tmod (rd x8_2 x11_2) a0_0) + (rd y339 x14_3)))) (by rfl) rfl ?_ ?_
                        ·go_simp
                         (try simp only [i64_w])
                         try rfl
                        refine hK.out _ _ ⟨v340, adz_v340, v344, adz_v344, m3_, m9_, (by rw [ha.out]; exact putSel_upk 8 hb_ rfl rfl rfl), Q_HO337, Q_HO_5, Q_HO_6, Q_HO_8, Q_HO_9, Q_BK313, Q_HB, Q_HO341, Q_HA_HO341, Q_HO345, Q_HA_HO345, Q_X3_, Q_X9_⟩
                       refine steps_cons ?_ ?_
                       ·rintro b a w' ⟨v340, adz_v340, v344, adz_v344, m3_, m9_, ha, Q_HO337, Q_HO_5, Q_HO_6, Q_HO_8, Q_HO_9, Q_BK313, Q_HB, Q_HO341, Q_HA_HO341, Q_HO345, Q_HA_HO345, Q_X3_, Q_X9_⟩ hb_ hon hoff
                        refine ⟨_, rfl, fun K hK => ?_⟩
                        have e101 : a.tmps[101]? = some (.int .i64 (wrap64 ((wrap64 (Int.tdiv (rd x8_2 x11_2) a0_0)) + (rd y343 x14_3)))) := by rw [ha]; exact putSel_on (e := (11, 101, .int .i64 (wrap64 ((wrap64 (Int.tdiv (rd x8_2 x11_2) a0_0)) + (rd y343 x14_3))))) 7 rfl rfl (hon 11 (by kernel_rfl)) rfl
                        replace ha := Aside0.mk ha
                        have HO337 := Aside0.mk Q_HO337
                        have HO_5 := Aside0.mk Q_HO_5
                        have HO_6 := Aside0.mk Q_HO_6
                        have HO_8 := Aside0.mk Q_HO_8
                        have HO_9 := Aside0.mk Q_HO_9
                        have BK313 := Aside0.mk Q_BK313
                        have HB := Aside0.mk Q_HB
                        have HO341 := Aside0.mk (Q_HO341 (hon 1 (by kernel_rfl)))
                        have HA_HO341 := Aside0.mk (Q_HA_HO341 (hon 1 (by kernel_rfl)))
                        have HO345 := Aside0.mk (Q_HO345 (hon 7 (by kernel_rfl)))
                        have HA_HO345 := Aside0.mk (Q_HA_HO345 (hon 7 (by kernel_rfl)))
                        refine value_ (w1 := w') (v := .int .i64 (wrap64 ((wrap64 (Int.tdiv (rd x8_2 x11_2) a0_0)) + (rd y343 x14_3)))) (by rfl) rfl ?_ ?_
                        ·go_simp
                         (try simp only [i64_w])
                         try rfl
                        refine hK.out _ _ ⟨v340, adz_v340, v344, adz_v344, m3_, m9_, (by rw [ha.out]; exact putSel_upk 9 hb_ rfl rfl rfl), Q_HO337, Q_HO_5, Q_HO_6, Q_HO_8, Q_HO_9, Q_BK313, Q_HB, Q_HO341, Q_HA_HO341, Q_HO345, Q_HA_HO345, Q_X3_, Q_X9_⟩
                       exact steps_nil
                      rintro b a w54 hall ⟨v340, adz_v340, v344, adz_v344, m3_, m9_, ha, Q_HO337, Q_HO_5, Q_HO_6, Q_HO_8, Q_HO_9, Q_BK313, Q_HB, Q_HO341, Q_HA_HO341, Q_HO345, Q_HA_HO345, Q_X3_, Q_X9_⟩
                      clear BK313 HB HO337 HO_5 HO_6 HO_8 HO_9
                      have hb1_ := hall 1 (by kernel_rfl)
                      have hb3_ := hall 3 (by kernel_rfl)
                      have hb4_ := hall 4 (by kernel_rfl)
                      have hb5_ := hall 5 (by kernel_rfl)
                      have hb7_ := hall 7 (by kernel_rfl)
                      have hb9_ := hall 9 (by kernel_rfl)
                      have hb10_ := hall 10 (by kernel_rfl)
                      have hb11_ := hall 11 (by kernel_rfl)
                      have hb12_ := hall 12 (by kernel_rfl)
                      have hb13_ := hall 13 (by kernel_rfl)
                      subst ha
                      obtain rfl := Q_X3_ hb3_
                      obtain rfl := Q_X9_ hb9_
                      simp only [putSel, hb1_, hb3_, hb4_, hb5_, hb7_, hb9_, hb10_, hb11_, hb12_, hb13_, if_true, Act.put, List.setIfInBounds_toArray, List.set_cons_zero, List.set_cons_succ]
                      have HO337 := Aside0.mk Q_HO337
                      clear Q_HO337
                      have HO_5 := Aside0.mk Q_HO_5
                      clear Q_HO_5
                      have HO_6 := Aside0.mk Q_HO_6
                      clear Q_HO_6
                      have HO_8 := Aside0.mk Q_HO_8
                      clear Q_HO_8
                      have HO_9 := Aside0.mk Q_HO_9
                      clear Q_HO_9
                      have BK313 := Aside0.mk Q_BK313
                      clear Q_BK313
                      have HB := Aside0.mk Q_HB
                      clear Q_HB
                      have HO341 := Aside0.mk (Q_HO341 hb1_)
                      clear Q_HO341
                      have HA_HO341 := Aside0.mk (Q_HA_HO341 hb1_)
                      clear Q_HA_HO341
                      have HO345 := Aside0.mk (Q_HO345 hb7_)
                      clear Q_HO345
                      have HA_HO345 := Aside0.mk (Q_HA_HO345 hb7_)
                      clear Q_HA_HO345
                      clear hall hb1_ hb3_ hb4_ hb5_ hb7_ hb9_ hb10_ hb11_ hb12_ hb13_
                      obtain ⟨co55, eo55⟩ := HA_HO341.out
                      clear HA_HO341
                      subst eo55
                      obtain ⟨co56, eo56⟩ := HA_HO345.out
                      clear HA_HO345
                      subst eo56
                      try go_wp2
                      (try simp only [← hl5_3])
                      go_roundg k3
                      case measure => have := HK1.out; have := HK2.out; have := HK3.out; omega
                      case rel => exact ⟨(x5_3), (x8_3), (x10_3), (wrap64 (x14_3 + 1)), rs_, rs_, H', ⟨by have := HK1.out; have := HK2.out; have := HK3.out; omega⟩, ⟨by (try simp only [hl5_1]); (try simp only [hl5_2]); (try simp only [hl5_3]); (with_reducible repeat (first | apply Kd.R_alloc | apply Kd.R_drewN | apply Kd.R_drew)); exact Kd.R_mono HO_5.out (fun _ hk => trivial)⟩, ⟨by (try simp only [hl5_1]); (try simp only [hl5_2]); (try simp only [hl5_3]); (with_reducible repeat (first | apply Kd.S_alloc | apply Kd.S_drewN | apply Kd.S_drew)); exact Kd.S_mono HO_6.out (fun _ hk => by and_intros <;> first | exact hk | exact hk.1 | exact hk.2 | exact hk.1.1 | exact hk.1.2 | exact hk.2.1 | exact hk.2.2 | trivial)⟩, ⟨by (try simp only [hl5_1]); (try simp only [hl5_2]); (try simp only [hl5_3]); (with_reducible repeat (first | apply Kd.R_alloc | apply Kd.R_drewN | apply Kd.R_drew)); exact Kd.R_mono HO_8.out (fun _ hk => by and_intros <;> first | exact hk | exact hk.1 | exact hk.2 | exact hk.1.1 | exact hk.1.2 | exact hk.2.1 | exact hk.2.2 | trivial)⟩, ⟨by (try simp only [hl5_1]); (try simp only [hl5_2]); (try simp only [hl5_3]); (with_reducible repeat (first | apply Kd.R_alloc | apply Kd.R_drewN | apply Kd.R_drew)); exact Kd.R_mono HO_9.out (fun _ hk => by and_intros <;> first | exact hk | exact hk.1 | exact hk.2 | exact hk.1.1 | exact hk.1.2 | exact hk.2.1 | exact hk.2.2 | trivial)⟩, ⟨by (try simp only [hl5_1]); (try simp only [hl5_2]); (try simp only [hl5_3]); (with_reducible repeat (first | refine blk_drewN ?_ _ | refine blk_drew ?_ | refine blk_alloc ?_ _)); exact BK313.out⟩, ⟨bl1_ HB.out GE313.out⟩⟩
                     ·replace c38 := Bool.eq_false_iff.mpr c38
                      subst c38
                      have H1 : ((spec_l1In.f (wrap64 ((Int.tmod (rd x8_2 x11_2) a0_0) + (rd y339 x14_3))) 0 (wrap64 (a0_0 - 1))).bind fun t347 => (if t347 = true then ((spec_l1In.f (wrap64 ((wrap64 (Int.tdiv (rd x8_2 x11_2) a0_0)) + (rd y343 x14_3))) 0 (wrap64 (a0_1 - 1))).bind fun t348 => (spec_liRegions.j3 k3 a0_0 a0_1 x5_3 x6_1 x8_3 t328 x10_3 x11_2 (Int.tmod (rd x8_2 x11_2) a0_0) (wrap64 (Int.tdiv (rd x8_2 x11_2) a0_0)) x14_3 (wrap64 ((Int.tmod (rd x8_2 x11_2) a0_0) + (rd y339 x14_3))) (wrap64 ((wrap64 (Int.tdiv (rd x8_2 x11_2) a0_0)) + (rd y343 x14_3))) (y314.length : Int) x28_1 (!t348) a0_0 a0_1 l0_2 l0_3)) else (spec_liRegions.j3 k3 a0_0 a0_1 x5_3 x6_1 x8_3 t328 x10_3 x11_2 (Int.tmod (rd x8_2 x11_2) a0_0) (wrap64 (Int.tdiv (rd x8_2 x11_2) a0_0)) x14_3 (wrap64 ((Int.tmod (rd x8_2 x11_2) a0_0) + (rd y339 x14_3))) (wrap64 ((wrap64 (Int.tdiv (rd x8_2 x11_2) a0_0)) + (rd y343 x14_3))) (y314.length : Int) x28_1 true a0_0 a0_1 l0_2 l0_3))) = some r := by rw [if_neg (show ¬ (false = true) by decide)] at H; exact H
                      clear H
                      have H := H1
                      clear H1
                      have HC57 := Aside0.mk H
                      clear H
                      try go_wp2
                      have pi338 : (0 ≤ (x14_3 : Int)) = True := eq_true (of_decide_eq_true as_)
                      have qi338 : (x14_3 < (y335.length : Int)) = True := eq_true (of_decide_eq_true as_)
                      have n0_ := Aside0.mk (Kd.R_drew HO_5.out)
                      have n1_ := Aside0.mk (Kd.S_drew HO_6.out)
                      have n2_ := Aside0.mk (Kd.R_drew HO_8.out)
                      have n3_ := Aside0.mk (Kd.R_drew HO_9.out)
                      have n4_ := Aside0.mk (blk_drew BK313.out)
                      have n5_ := Aside0.mk (below_drew1 HB.out)
                      clear HO_5
                      clear HO_6
                      clear HO_8
                      clear HO_9
                      clear BK313
                      clear HB
                      have HO_5 := n0_
                      have HO_6 := n1_
                      have HO_8 := n2_
                      have HO_9 := n3_
                      have BK313 := n4_
                      have HB := n5_
                      clear n0_ n1_ n2_ n3_ n4_ n5_
                      refine start_ (n := 23) (S := fun w' => w'.cell? ⟨gb313, 0, none⟩ = some (.int .i64 a0_0) ∧ w'.cell? ⟨gb313, 1, none⟩ = some (.int .i64 a0_1) ∧ w'.cell? ⟨gb313, 2, none⟩ = some (.slice A0_2 l0_2.length c0_2) ∧ w'.cell? ⟨gb313, 3, none⟩ = some (.slice A0_3 l0_3.length c0_3)) (ds := []) #[Ff, Ff, Ff, Ff, Ff, Ff, Ff, Ff, Ff, Ff, Ff, Ff, Ff, Ff, Ff, Ff, Ff, Ff, Ff, Ff, Ff, Ff, Ff] (by kernel_rfl) rfl rfl ⟨(blk_cell BK313.out 0).trans rfl, (blk_cell BK313.out 1).trans rfl, (blk_cell BK313.out 2).trans rfl, (blk_cell BK313.out 3).trans rfl⟩ (fun hHeld => ?_); refine with_tabW spec_liRegions.tab20 spec_liRegions.bits20 (fun HT_ HW_ => ?_)
                      generalize wr.drew = w58 at HO_5 HO_6 HO_8 HO_9 BK313 HB hHeld ⊢
                      refine pZ (i := 1) (N := some 69) #[Ff, Tt, Ff, Ff, Ff, Ff, Ff, Ff, Ff, Ff, Ff, Ff, Ff, Ff, Ff, Ff, Ff, Ff, Ff, Ff, Ff, Ff, Ff] ?_
                      refine pZ (i := 2) (N := some 70) #[Ff, Tt, Tt, Ff, Ff, Ff, Ff, Ff, Ff, Ff, Ff, Ff, Ff, Ff, Ff, Ff, Ff, Ff, Ff, Ff, Ff, Ff, Ff] ?_
                      refine pZ (i := 5) (N := some 73) #[Ff, Tt, Tt, Ff, Ff, Tt, Ff, Ff, Ff, Ff, Ff, Ff, Ff, Ff, Ff, Ff, Ff, Ff, Ff, Ff, Ff, Ff, Ff] ?_
                      refine pZ (i := 6) (N := some 74) #[Ff, Tt, Tt, Ff, Ff, Tt, Tt, Ff, Ff, Ff, Ff, Ff, Ff, Ff, Ff, Ff, Ff, Ff, Ff, Ff, Ff, Ff, Ff] ?_
                      refine pZ (i := 7) (N := some 75) #[Ff, Tt, Tt, Ff, Ff, Tt, Tt, Tt, Ff, Ff, Ff, Ff, Ff, Ff, Ff, Ff, Ff, Ff, Ff, Ff, Ff, Ff, Ff] ?_
                      refine pZ (i := 10) (N := some 78) #[Ff, Tt, Tt, Ff, Ff, Tt, Tt, Tt, Ff, Ff, Tt, Ff, Ff, Ff, Ff, Ff, Ff, Ff, Ff, Ff, Ff, Ff, Ff] ?_
                      refine pZ (i := 11) (N := some 79) #[Ff, Tt, Tt, Ff, Ff, Tt, Tt, Tt, Ff, Ff, Tt, Tt, Ff, Ff, Ff, Ff, Ff, Ff, Ff, Ff, Ff, Ff, Ff] ?_
                      refine pZ (i := 12) (N := some 80) #[Ff, Tt, Tt, Ff, Ff, Tt, Tt, Tt, Ff, Ff, Tt, Tt, Tt, Ff, Ff, Ff, Ff, Ff, Ff, Ff, Ff, Ff, Ff] ?_
                      refine pZ (i := 15) (N := some 83) #[Ff, Tt, Tt, Ff, Ff, Tt, Tt, Tt, Ff, Ff, Tt, Tt, Tt, Ff, Ff, Tt, Ff, Ff, Ff, Ff, Ff, Ff, Ff] ?_
                      refine pZ (i := 16) (N := some 84) #[Ff, Tt, Tt, Ff, Ff, Tt, Tt, Tt, Ff, Ff, Tt, Tt, Tt, Ff, Ff, Tt, Tt, Ff, Ff, Ff, Ff, Ff, Ff] ?_
                      refine pZ (i := 19) (N := some 87) #[Ff, Tt, Tt, Ff, Ff, Tt, Tt, Tt, Ff, Ff, Tt, Tt, Tt, Ff, Ff, Tt, Tt, Ff, Ff, Tt, Ff, Ff, Ff] ?_
                      refine tZ (i := 0) (N := some 68) #[Tt, Tt, Tt, Ff, Ff, Tt, Tt, Tt, Ff, Ff, Tt, Tt, Tt, Ff, Ff, Tt, Tt, Ff, Ff, Tt, Ff, Ff, Ff] ?_
                      refine tZ (i := 4) (N := some 72) #[Tt, Tt, Tt, Ff, Tt, Tt, Tt, Tt, Ff, Ff, Tt, Tt, Tt, Ff, Ff, Tt, Tt, Ff, Ff, Tt, Ff, Ff, Ff] ?_
                      refine tZ (i := 9) (N := some 77) #[Tt, Tt, Tt, Ff, Tt, Tt, Tt, Tt, Ff, Tt, Tt, Tt, Tt, Ff, Ff, Tt, Tt, Ff, Ff, Tt, Ff, Ff, Ff] ?_
                      refine tZ (i := 14) (N := some 82) #[Tt, Tt, Tt, Ff, Tt, Tt, Tt, Tt, Ff, Tt, Tt, Tt, Tt, Ff, Tt, Tt, Tt, Ff, Ff, Tt, Ff, Ff, Ff] ?_
                      refine one_ (i := 3) (N := some 71) #[Tt, Tt, Tt, Tt, Tt, Tt, Tt, Tt, Ff, Tt, Tt, Tt, Tt, Ff, Tt, Tt, Tt, Ff, Ff, Tt, Ff, Ff, Ff] rfl rfl (one_of HT_.out (by kernel_rfl)) (by decide) (fun K hK => ?_)
                      refine goes_ Try.func78 (by kernel_rfl) rfl #[.agg #[.int .i64 a0_0, .int .i64 a0_1, .slice A0_2 l0_2.length c0_2, .slice A0_3 l0_3.length c0_3], .bool false, .int .i64 (Int.tmod (rd x8_2 x11_2) a0_0), .int .i64 (wrap64 (Int.tdiv (rd x8_2 x11_2) a0_0))] (by rfl) rfl rfl ob_ ?_
                      with_reducible refine (spec_fiHas.calls k3 a0_0 a0_1 _ _ l0_2 _ _ l0_3 false (Int.tmod (rd x8_2 x11_2) a0_0) (wrap64 (Int.tdiv (rd x8_2 x11_2) a0_0)) t331 _ ?side1 ?side2 ?side3 ?side4 A29.out).mono ?_
                      (case side1 => exact kc_ (Kd.C_below HR0_2.out HB.out))
                      (case side2 => exact HC0_2.out)
                      (case side3 => exact kc_ (Kd.C_below HR0_3.out HB.out))
                      (case side4 => exact HC0_3.out)
                      rintro e w59 ⟨rfl, hb⟩
                      refine ⟨_, rfl, ?_⟩
                      have n0_ := Aside0.mk (Kd.R_below (kr_ HO_5.out) hb)
                      have n1_ := Aside0.mk (Kd.S_below (by (with_reducible repeat (first | apply Kd.S_alloc | apply Kd.S_drewN | apply Kd.S_drew)); exact HO_6.out) hb)
                      have n2_ := Aside0.mk (Kd.R_below (kr_ HO_8.out) hb)
                      have n3_ := Aside0.mk (Kd.R_below (kr_ HO_9.out) hb)
                      have n4_ := Aside0.mk (bb_ BK313.out hb)
                      have n5_ := Aside0.mk (below_step (bl1_ HB.out GE313.out) hb)
                      clear HO_5
                      clear HO_6
                      clear HO_8
                      clear HO_9
                      clear BK313
                      clear HB
                      have HO_5 := n0_
                      have HO_6 := n1_
                      have HO_8 := n2_
                      have HO_9 := n3_
                      have BK313 := n4_
                      have HB := n5_
                      clear n0_ n1_ n2_ n3_ n4_ n5_
                      (try clear hb)
                      (try clear hb2)
                      (try clear hk)
                      (try clear hi)
                      refine hK.out _ _ ⟨(blk_cell BK313.out 0).trans rfl, (blk_cell BK313.out 1).trans rfl, (blk_cell BK313.out 2).trans rfl, (blk_cell BK313.out 3).trans rfl⟩ (fun hHeld => ?_)
                      clear hK K
                      refine norm_ (a' := _) ap_ ?_
                      refine one_ (i := 8) (N := some 76) #[Tt, Tt, Tt, Tt, Tt, Tt, Tt, Tt, Tt, Tt, Tt, Tt, Tt, Ff, Tt, Tt, Tt, Ff, Ff, Tt, Ff, Ff, Ff] rfl rfl (one_of HT_.out (by kernel_rfl)) (by decide) (fun K hK => ?_)
                      refine goes_ Try.func78 (by kernel_rfl) rfl #[.agg #[.int .i64 a0_0, .int .i64 a0_1, .slice A0_2 l0_2.length c0_2, .slice A0_3 l0_3.length c0_3], .bool true, .int .i64 (wrap64 ((Int.tmod (rd x8_2 x11_2) a0_0) + 1)), .int .i64 (wrap64 (Int.tdiv (rd x8_2 x11_2) a0_0))] (by rfl) rfl rfl ob_ ?_
                      with_reducible refine (spec_fiHas.calls k3 a0_0 a0_1 _ _ l0_2 _ _ l0_3 true (wrap64 ((Int.tmod (rd x8_2 x11_2) a0_0) + 1)) (wrap64 (Int.tdiv (rd x8_2 x11_2) a0_0)) t332 _ ?side1 ?side2 ?side3 ?side4 A30.out).mono ?_
                      (case side1 => exact kc_ (Kd.C_below HR0_2.out HB.out))
                      (case side2 => exact HC0_2.out)
                      (case side3 => exact kc_ (Kd.C_below HR0_3.out HB.out))
                      (case side4 => exact HC0_3.out)
                      rintro e w60 ⟨rfl, hb⟩
                      refine ⟨_, rfl, ?_⟩
                      have n0_ := Aside0.mk (Kd.R_below (kr_ HO_5.out) hb)
                      have n1_ := Aside0.mk (Kd.S_below (by (with_reducible repeat (first | apply Kd.S_alloc | apply Kd.S_drewN | apply Kd.S_drew)); exact HO_6.out) hb)
                      have n2_ := Aside0.mk (Kd.R_below (kr_ HO_8.out) hb)
                      have n3_ := Aside0.mk (Kd.R_below (kr_ HO_9.out) hb)
                      have n4_ := Aside0.mk (bb_ BK313.out hb)
                      have n5_ := Aside0.mk (below_step (bl1_ HB.out GE313.out) hb)
                      clear HO_5
                      clear HO_6
                      clear HO_8
                      clear HO_9
                      clear BK313
                      clear HB
                      have HO_5 := n0_
                      have HO_6 := n1_
                      have HO_8 := n2_
                      have HO_9 := n3_
                      have BK313 := n4_
                      have HB := n5_
                      clear n0_ n1_ n2_ n3_ n4_ n5_
                      (try clear hb)
                      (try clear hb2)
                      (try clear hk)
                      (try clear hi)
                      refine hK.out _ _ ⟨(blk_cell BK313.out 0).trans rfl, (blk_cell BK313.out 1).trans rfl, (blk_cell BK313.out 2).trans rfl, (blk_cell BK313.out 3).trans rfl⟩ (fun hHeld => ?_)
                      clear hK K
                      refine norm_ (a' := _) ap_ ?_
                      refine one_ (i := 13) (N := some 81) #[Tt, Tt, Tt, Tt, Tt, Tt, Tt, Tt, Tt, Tt, Tt, Tt, Tt, Tt, Tt, Tt, Tt, Ff, Ff, Tt, Ff, Ff, Ff] rfl rfl (one_of HT_.out (by kernel_rfl)) (by decide) (fun K hK => ?_)
                      refine goes_ Try.func78 (by kernel_rfl) rfl #[.agg #[.int .i64 a0_0, .int .i64 a0_1, .slice A0_2 l0_2.length c0_2, .slice A0_3 l0_3.length c0_3], .bool false, .int .i64 (Int.tmod (rd x8_2 x11_2) a0_0), .int .i64 (wrap64 ((wrap64 (Int.tdiv (rd x8_2 x11_2) a0_0)) + 1))] (by rfl) rfl rfl ob_ ?_
                      with_reducible refine (spec_fiHas.calls k3 a0_0 a0_1 _ _ l0_2 _ _ l0_3 false (Int.tmod (rd x8_2 x11_2) a0_0) (wrap64 ((wrap64 (Int.tdiv (rd x8_2 x11_2) a0_0)) + 1)) t333 _ ?side1 ?side2 ?side3 ?side4 A31.out).mono ?_
                      (case side1 => exact kc_ (Kd.C_below HR0_2.out HB.out))
                      (case side2 => exact HC0_2.out)
                      (case side3 => exact kc_ (Kd.C_below HR0_3.out HB.out))
                      (case side4 => exact HC0_3.out)
                      rintro e w61 ⟨rfl, hb⟩
                      refine ⟨_, rfl, ?_⟩
                      have n0_ := Aside0.mk (Kd.R_below (kr_ HO_5.out) hb)
                      have n1_ := Aside0.mk (Kd.S_below (by (with_reducible repeat (first | apply Kd.S_alloc | apply Kd.S_drewN | apply Kd.S_drew)); exact HO_6.out) hb)
                      have n2_ := Aside0.mk (Kd.R_below (kr_ HO_8.out) hb)
                      have n3_ := Aside0.mk (Kd.R_below (kr_ HO_9.out) hb)
                      have n4_ := Aside0.mk (bb_ BK313.out hb)
                      have n5_ := Aside0.mk (below_step (bl1_ HB.out GE313.out) hb)
                      clear HO_5
                      clear HO_6
                      clear HO_8
                      clear HO_9
                      clear BK313
                      clear HB
                      have HO_5 := n0_
                      have HO_6 := n1_
                      have HO_8 := n2_
                      have HO_9 := n3_
                      have BK313 := n4_
                      have HB := n5_
                      clear n0_ n1_ n2_ n3_ n4_ n5_
                      (try clear hb)
                      (try clear hb2)
                      (try clear hk)
                      (try clear hi)
                      refine hK.out _ _ ⟨(blk_cell BK313.out 0).trans rfl, (blk_cell BK313.out 1).trans rfl, (blk_cell BK313.out 2).trans rfl, (blk_cell BK313.out 3).trans rfl⟩ (fun hHeld => ?_)
                      clear hK K
                      refine norm_ (a' := _) ap_ ?_
                      refine one_ (i := 17) (N := some 85) #[Tt, Tt, Tt, Tt, Tt, Tt, Tt, Tt, Tt, Tt, Tt, Tt, Tt, Tt, Tt, Tt, Tt, Tt, Ff, Tt, Ff, Ff, Ff] rfl rfl (one_of HT_.out (by kernel_rfl)) (by decide) (fun K hK => ?_)
                      refine goes_ Try.func78 (by kernel_rfl) rfl #[.agg #[.int .i64 a0_0, .int .i64 a0_1, .slice A0_2 l0_2.length c0_2, .slice A0_3 l0_3.length c0_3], .bool true, .int .i64 (Int.tmod (rd x8_2 x11_2) a0_0), .int .i64 (wrap64 (Int.tdiv (rd x8_2 x11_2) a0_0))] (by rfl) rfl rfl ob_ ?_
                      with_reducible refine (spec_fiHas.calls k3 a0_0 a0_1 _ _ l0_2 _ _ l0_3 true (Int.tmod (rd x8_2 x11_2) a0_0) (wrap64 (Int.tdiv (rd x8_2 x11_2) a0_0)) t334 _ ?side1 ?side2 ?side3 ?side4 A32.out).mono ?_
                      (case side1 => exact kc_ (Kd.C_below HR0_2.out HB.out))
                      (case side2 => exact HC0_2.out)
                      (case side3 => exact kc_ (Kd.C_below HR0_3.out HB.out))
                      (case side4 => exact HC0_3.out)
                      rintro e w62 ⟨rfl, hb⟩
                      refine ⟨_, rfl, ?_⟩
                      have n0_ := Aside0.mk (Kd.R_below (kr_ HO_5.out) hb)
                      have n1_ := Aside0.mk (Kd.S_below (by (with_reducible repeat (first | apply Kd.S_alloc | apply Kd.S_drewN | apply Kd.S_drew)); exact HO_6.out) hb)
                      have n2_ := Aside0.mk (Kd.R_below (kr_ HO_8.out) hb)
                      have n3_ := Aside0.mk (Kd.R_below (kr_ HO_9.out) hb)
                      have n4_ := Aside0.mk (bb_ BK313.out hb)
                      have n5_ := Aside0.mk (below_step (bl1_ HB.out GE313.out) hb)
                      clear HO_5
                      clear HO_6
                      clear HO_8
                      clear HO_9
                      clear BK313
                      clear HB
                      have HO_5 := n0_
                      have HO_6 := n1_
                      have HO_8 := n2_
                      have HO_9 := n3_
                      have BK313 := n4_
                      have HB := n5_
                      clear n0_ n1_ n2_ n3_ n4_ n5_
                      (try clear hb)
                      (try clear hb2)
                      (try clear hk)
                      (try clear hi)
                      refine hK.out _ _ ⟨(blk_cell BK313.out 0).trans rfl, (blk_cell BK313.out 1).trans rfl, (blk_cell BK313.out 2).trans rfl, (blk_cell BK313.out 3).trans rfl⟩ (fun hHeld => ?_)
                      clear hK K
                      refine norm_ (a' := _) ap_ ?_
                      refine one_ (i := 18) (N := some 86) #[Tt, Tt, Tt, Tt, Tt, Tt, Tt, Tt, Tt, Tt, Tt, Tt, Tt, Tt, Tt, Tt, Tt, Tt, Tt, Tt, Ff, Ff, Ff] rfl rfl (one_of HT_.out (by kernel_rfl)) (by decide) (fun K hK => ?_)
                      refine Kd.R_lit_step Kd.bool _ 4 ?hg (N := 86) ?hd (xs := ([t331, t332, t333, t334] : List Bool)) (inner := [.bool t331, .bool t332, .bool t333, .bool t334]) (ok := fun _ => True) (okp := fun _ => True) ?hr ?hp (fun _ hk => hk) trivial (Below.refl _ _) (Nat.le_refl _) (by simp) ?_; (case hd => rfl); (case hg => rfl); (case hr => first | (go_simp; done) | (go_simp; rfl)); (case hp => exact (Reps.one (show Kd.M Kd.bool _ _ _ t331 [.bool t331] from rfl) (Reps.one (show Kd.M Kd.bool _ _ _ t332 [.bool t332] from rfl) (Reps.one (show Kd.M Kd.bool _ _ _ t333 [.bool t333] from rfl) (Reps.one (show Kd.M Kd.bool _ _ _ t334 [.bool t334] from rfl) (Reps.none _ _))))))
                      intro v336 w63 ho64 hb hg_ hnew_
                      clear hg_ hnew_
                      (first | rw [← Ny335.out] at ho64 | (simp only [Int.reduceToNat] at ho64; rw [← Ny335.out] at ho64))
                      have n0_ := Aside0.mk (Kd.R_elder' (kr_ HO_5.out) (Kd.R_base ho64) hb)
                      have n1_ := Aside0.mk (Kd.S_below (by (with_reducible repeat (first | apply Kd.S_alloc | apply Kd.S_drewN | apply Kd.S_drew)); exact HO_6.out) hb)
                      have n2_ := Aside0.mk (Kd.R_below (kr_ HO_8.out) hb)
                      have n3_ := Aside0.mk (Kd.R_below (kr_ HO_9.out) hb)
                      have n4_ := Aside0.mk (Kd.R_lower (Kd.R_new' ho64 (Kd.R_lt (kr_ HO_5.out))) (below_size (bl1_ HB.out GE313.out)))
                      have n5_ := Aside0.mk (bb_ BK313.out hb)
                      have n6_ := Aside0.mk (below_step (bl1_ HB.out GE313.out) hb)
                      clear HO_5
                      clear HO_6
                      clear HO_8
                      clear HO_9
                      clear BK313
                      clear HB
                      have HO_5 := n0_
                      have HO_6 := n1_
                      have HO_8 := n2_
                      have HO_9 := n3_
                      have HO337 := n4_
                      have BK313 := n5_
                      have HB := n6_
                      clear n0_ n1_ n2_ n3_ n4_ n5_ n6_
                      clear hb ho64
                      obtain ⟨Ao65, co65, eo65⟩ := Kd.R_slice HO337.out
                      subst eo65
                      obtain ⟨ado65, fo65, _⟩ := Kd.at_bool (Kd.R_reads' HO337.out).2.2 0 (by decide) (by rw [Ny335.out]; simp)
                      cases fo65
                      refine hK.out _ _ ⟨(blk_cell BK313.out 0).trans rfl, (blk_cell BK313.out 1).trans rfl, (blk_cell BK313.out 2).trans rfl, (blk_cell BK313.out 3).trans rfl⟩ (fun hHeld => ?_)
                      clear hK K
                      refine norm_ (a' := _) ap_ ?_
                      refine pZ (i := 20) (N := some 88) #[Tt, Tt, Tt, Tt, Tt, Tt, Tt, Tt, Tt, Tt, Tt, Tt, Tt, Tt, Tt, Tt, Tt, Tt, Tt, Tt, Tt, Ff, Ff] ?_
                      refine one_ (i := 21) (N := some 89) #[Tt, Tt, Tt, Tt, Tt, Tt, Tt, Tt, Tt, Tt, Tt, Tt, Tt, Tt, Tt, Tt, Tt, Tt, Tt, Tt, Tt, Tt, Ff] rfl rfl (one_of HT_.out (by kernel_rfl)) (by decide) (fun K hK => ?_)
                      (have p338 : 0 ≤ (x14_3 : Int) := of_decide_eq_true as_; have q338 : x14_3 < (y335.length : Int) := of_decide_eq_true as_; obtain ⟨ad338, e338, hx338_0⟩ := Kd.at_bool (Kd.R_reads' HO337.out).2.2 x14_3 p338 q338; obtain rfl : ado65 = ad338 := (by injection e338)); (try rw [← Nbq37.out] at hx338_0)
                      refine value_ (w1 := ?_) (v := ?_) (by rfl) rfl ?_ ?_
                      rotate_left 2
                      ·go_simp
                       constructor
                       ·rfl
                       ·rfl
                      clear hx338_0
                      refine hK.out _ _ ⟨(blk_cell BK313.out 0).trans rfl, (blk_cell BK313.out 1).trans rfl, (blk_cell BK313.out 2).trans rfl, (blk_cell BK313.out 3).trans rfl⟩ (fun hHeld => ?_)
                      clear hK K
                      refine norm_ (a' := _) ap_ ?_
                      refine pZ (i := 22) (N := some 15) #[Tt, Tt, Tt, Tt, Tt, Tt, Tt, Tt, Tt, Tt, Tt, Tt, Tt, Tt, Tt, Tt, Tt, Tt, Tt, Tt, Tt, Tt, Tt] ?_
                      refine done_ (done_of HT_.out (by kernel_rfl)) ?_
                      try go_wp2
                      have pi342 : (0 ≤ (x14_3 : Int)) = True := eq_true (of_decide_eq_true as_)
                      have qi342 : (x14_3 < (y339.length : Int)) = True := eq_true (of_decide_eq_true as_)
                      have pi346 : (0 ≤ (x14_3 : Int)) = True := eq_true (of_decide_eq_true as_)
                      have qi346 : (x14_3 < (y343.length : Int)) = True := eq_true (of_decide_eq_true as_)
                      have n0_ := Aside0.mk (Kd.R_drew HO_5.out)
                      have n1_ := Aside0.mk (Kd.S_drew HO_6.out)
                      have n2_ := Aside0.mk (Kd.R_drew HO_8.out)
                      have n3_ := Aside0.mk (Kd.R_drew HO_9.out)
                      have n4_ := Aside0.mk (Kd.R_drew HO337.out)
                      have n5_ := Aside0.mk (blk_drew BK313.out)
                      have n6_ := Aside0.mk (below_drew1 HB.out)
                      clear HO_5
                      clear HO_6
                      clear HO_8
                      clear HO_9
                      clear HO337
                      clear BK313
                      clear HB
                      have HO_5 := n0_
                      have HO_6 := n1_
                      have HO_8 := n2_
                      have HO_9 := n3_
                      have HO337 := n4_
                      have BK313 := n5_
                      have HB := n6_
                      clear n0_ n1_ n2_ n3_ n4_ n5_ n6_
                      refine start_ (n := 14) (S := fun w' => True) (ds := []) #[Ff, Ff, Ff, Ff, Ff, Ff, Ff, Ff, Ff, Ff, Ff, Ff, Ff, Ff] (by kernel_rfl) rfl rfl trivial (fun hHeld => ?_); refine with_tabW spec_liRegions.tab21 spec_liRegions.bits21 (fun HT_ HW_ => ?_)
                      generalize w63.drew = w66 at HO_5 HO_6 HO_8 HO_9 HO337 BK313 HB hHeld ⊢
                      refine pZ (i := 0) (N := some 90) #[Tt, Ff, Ff, Ff, Ff, Ff, Ff, Ff, Ff, Ff, Ff, Ff, Ff, Ff] ?_
                      refine pZ (i := 2) (N := some 92) #[Tt, Ff, Tt, Ff, Ff, Ff, Ff, Ff, Ff, Ff, Ff, Ff, Ff, Ff] ?_
                      refine pZ (i := 6) (N := some 96) #[Tt, Ff, Tt, Ff, Ff, Ff, Tt, Ff, Ff, Ff, Ff, Ff, Ff, Ff] ?_
                      refine pZ (i := 8) (N := some 98) #[Tt, Ff, Tt, Ff, Ff, Ff, Tt, Ff, Tt, Ff, Ff, Ff, Ff, Ff] ?_
                      refine inv_at [1, 3, 4, 5, 7, 9, 10, 11, 12, 13] (fun a0_ b a w' => ∃ (v340 : Value) (adz_v340 : Addr) (v344 : Value) (adz_v344 : Addr) (m3_ : Value) (m9_ : Value), a = putSel a0_ b [(1, 91, v340), (3, 93, m3_), (4, 94, .int .i64 (rd y339 x14_3)), (5, 95, .int .i64 (wrap64 ((Int.tmod (rd x8_2 x11_2) a0_0) + (rd y339 x14_3)))), (7, 97, v344), (9, 99, m9_), (10, 100, .int .i64 (rd y343 x14_3)), (11, 101, .int .i64 (wrap64 ((wrap64 (Int.tdiv (rd x8_2 x11_2) a0_0)) + (rd y343 x14_3)))), (12, 16, .int .i64 (wrap64 ((Int.tmod (rd x8_2 x11_2) a0_0) + (rd y339 x14_3)))), (13, 17, .int .i64 (wrap64 ((wrap64 (Int.tdiv (rd x8_2 x11_2) a0_0)) + (rd y343 x14_3))))] ∧ (Kd.R Kd.bool 4 w' w.heap.size (fun k_ => some k_ ≠ (.slice (some ⟨go15, 0, none⟩) x5_3.length co9 : Value).ownBlock) (.slice (some ado65) y335.length co65) y335) ∧ (Kd.R Kd.bool 4 w' w.heap.size (fun k_ => some k_ ≠ (.slice (some ado65) y335.length co65 : Value).ownBlock) (.slice (some ⟨go15, 0, none⟩) x5_3.length co9) x5_3) ∧ (Kd.S (Kd.slice 3 (Kd.int .i64)) 22 w' w.heap.size (fun k_ => some k_ ≠ (u8 : Value).ownBlock ∧ some k_ ≠ (v329 : Value).ownBlock) u6 x6_1) ∧ (Kd.R (Kd.int .i64) 3 w' w.heap.size (fun k_ => some k_ ≠ (v329 : Value).ownBlock) u8 x8_3) ∧ (Kd.R (Kd.int .i64) 3 w' w.heap.size (fun k_ => some k_ ≠ (u8 : Value).ownBlock) v329 t328) ∧ (w'.heap[gb313]? = some (.cells #[.int .i64 a0_0, .int .i64 a0_1, .slice A0_2 l0_2.length c0_2, .slice A0_3 l0_3.length c0_3] 28 (0, 0))) ∧ (Below w.heap.size w w') ∧ (b 1 = true → Kd.R (Kd.int .i64) 3 w' w.heap.size (fun k_ => some k_ ≠ (u8 : Value).ownBlock ∧ some k_ ≠ (v329 : Value).ownBlock) v340 y339) ∧ (b 1 = true → ∃ c_, (v340 : Value) = .slice (some adz_v340) y339.length c_) ∧ (b 7 = true → Kd.R (Kd.int .i64) 3 w' w.heap.size (fun k_ => some k_ ≠ (u8 : Value).ownBlock ∧ some k_ ≠ (v329 : Value).ownBlock) v344 y343) ∧ (b 7 = true → ∃ c_, (v344 : Value) = .slice (some adz_v344) y343.length c_) ∧ (b 3 = true → (m3_ : Value) = .pointer (some (adz_v340.add (x14_3).toNat))) ∧ (b 9 = true → (m9_ : Value) = .pointer (some (adz_v344.add (x14_3).toNat)))) HT_.out HW_.out (by kernel_rfl) (by kernel_rfl) ?_ ?_ ?_
                      ·exact ⟨.bool false, ⟨0, 0, none⟩, .bool false, ⟨0, 0, none⟩, .bool false, .bool false, by simp only [putSel, Bool.false_eq_true, if_false], (Kd.R_mono HO337.out (fun _ hk => by and_intros <;> first | exact hk | exact hk.1 | exact hk.2 | exact hk.1.1 | exact hk.1.2 | exact hk.2.1 | exact hk.2.2 | trivial)), (Kd.R_mono HO_5.out (fun _ hk => by and_intros <;> first | exact hk | exact hk.1 | exact hk.2 | exact hk.1.1 | exact hk.1.2 | exact hk.2.1 | exact hk.2.2 | trivial)), HO_6.out, HO_8.out, HO_9.out, BK313.out, HB.out, fun h_ => absurd h_ (by decide), fun h_ => absurd h_ (by decide), fun h_ => absurd h_ (by decide), fun h_ => absurd h_ (by decide), fun h_ => absurd h_ (by decide), fun h_ => absurd h_ (by decide)⟩
                      ·skip
                       clear BK313 HB HO337 HO_5 HO_6 HO_8 HO_9
                       refine steps_cons ?_ ?_
                       ·rintro b a w' ⟨v340, adz_v340, v344, adz_v344, m3_, m9_, ha, Q_HO337, Q_HO_5, Q_HO_6, Q_HO_8, Q_HO_9, Q_BK313, Q_HB, Q_HO341, Q_HA_HO341, Q_HO345, Q_HA_HO345, Q_X3_, Q_X9_⟩ hb_ hon hoff
                        refine ⟨_, rfl, fun K hK => ?_⟩
                        replace ha := Aside0.mk ha
                        have HO337 := Aside0.mk Q_HO337
                        have HO_5 := Aside0.mk Q_HO_5
                        have HO_6 := Aside0.mk Q_HO_6
                        have HO_8 := Aside0.mk Q_HO_8
                        have HO_9 := Aside0.mk Q_HO_9
                        have BK313 := Aside0.mk Q_BK313
                        have HB := Aside0.mk Q_HB
                        refine Kd.R_lit_step (Kd.int .i64) _ 3 ?hg (N := 91) ?hd (xs := ([0, 1, 0, (-1)] : List Int)) (inner := [.int .i64 0, .int .i64 1, .int .i64 0, .int .i64 (-1)]) (ok := fun _ => True) (okp := fun _ => True) ?hr ?hp (fun _ hk => hk) trivial (Below.refl _ _) (Nat.le_refl _) (by simp) ?_; (case hd => rfl); (case hg => rfl); (case hr => first | (go_simp; done) | (go_simp; rfl)); (case hp => exact (Reps.one (show Kd.M (Kd.int .i64) _ _ _ 0 [.int .i64 0] from rfl) (Reps.one (show Kd.M (Kd.int .i64) _ _ _ 1 [.int .i64 1] from rfl) (Reps.one (show Kd.M (Kd.int .i64) _ _ _ 0 [.int .i64 0] from rfl) (Reps.one (show Kd.M (Kd.int .i64) _ _ _ (-1) [.int .i64 (-1)] from rfl) (Reps.none _ _))))))
                        intro v340 w67 ho68 hb hg_ hnew_
                        clear hg_ hnew_
                        (first | rw [← Ny339.out] at ho68 | (simp only [Int.reduceToNat] at ho68; rw [← Ny339.out] at ho68))
                        have n0_ := Aside0.mk (Kd.R_below (kr_ HO_5.out) hb)
                        have n1_ := Aside0.mk (Kd.S_elder' (by (with_reducible repeat (first | apply Kd.S_alloc | apply Kd.S_drewN | apply Kd.S_drew)); exact HO_6.out) (Kd.R_base ho68) hb)
                        have n2_ := Aside0.mk (Kd.R_elder' (kr_ HO_8.out) (Kd.R_base ho68) hb)
                        have n3_ := Aside0.mk (Kd.R_elder' (kr_ HO_9.out) (Kd.R_base ho68) hb)
                        have n4_ := Aside0.mk (Kd.R_below (kr_ HO337.out) hb)
                        have n5_ := Aside0.mk (Kd.R_lower (Kd.R_new' (Kd.R_new' ho68 (Kd.R_lt (kr_ HO_8.out))) (Kd.R_lt (kr_ HO_9.out))) (below_size (bl1_ HB.out GE313.out)))
                        have n6_ := Aside0.mk (bb_ BK313.out hb)
                        have n7_ := Aside0.mk (below_step (bl1_ HB.out GE313.out) hb)
                        have z_HO345 := fun (h0_ : b 7 = true) => (show Kd.R (Kd.int .i64) 3 w67 w.heap.size (fun k_ => some k_ ≠ (u8 : Value).ownBlock ∧ some k_ ≠ (v329 : Value).ownBlock) v344 y343 from by first | exact (Kd.R_elder' (by (with_reducible repeat (first | apply Kd.R_alloc | apply Kd.R_drewN | apply Kd.R_drew)); exact (Q_HO345 h0_)) (Kd.R_base ho68) hb) | exact Kd.R_mono (Kd.R_elder' (by (with_reducible repeat (first | apply Kd.R_alloc | apply Kd.R_drewN | apply Kd.R_drew)); exact (Q_HO345 h0_)) (Kd.R_base ho68) hb) (fun _ h_ => by first | trivial | exact h_ | exact h_.1))
                        clear HO_5
                        clear HO_6
                        clear HO_8
                        clear HO_9
                        clear HO337
                        clear BK313
                        clear HB
                        have HO_5 := n0_
                        have HO_6 := n1_
                        have HO_8 := n2_
                        have HO_9 := n3_
                        have HO337 := n4_
                        have HO341 := n5_
                        have BK313 := n6_
                        have HB := n7_
                        clear n0_ n1_ n2_ n3_ n4_ n5_ n6_ n7_
                        clear hb ho68
                        obtain ⟨Ao69, co69, eo69⟩ := Kd.R_slice HO341.out
                        subst eo69
                        obtain ⟨ado69, fo69, _⟩ := Kd.at_int (Kd.R_reads' HO341.out).2.2 0 (by decide) (by rw [Ny339.out]; simp)
                        cases fo69
                        refine hK.out _ _ ⟨.slice (some ado69) y339.length co69, ado69, v344, adz_v344, m3_, m9_, (by rw [ha.out]; exact putSel_upk 0 hb_ rfl rfl rfl), (by (with_reducible repeat (first | apply Kd.R_alloc | apply Kd.R_drewN | apply Kd.R_drew)); exact Kd.R_mono HO337.out (fun _ hk => by and_intros <;> first | exact hk | exact hk.1 | exact hk.2 | exact hk.1.1 | exact hk.1.2 | exact hk.2.1 | exact hk.2.2 | trivial)), (by (with_reducible repeat (first | apply Kd.R_alloc | apply Kd.R_drewN | apply Kd.R_drew)); exact Kd.R_mono HO_5.out (fun _ hk => by and_intros <;> first | exact hk | exact hk.1 | exact hk.2 | exact hk.1.1 | exact hk.1.2 | exact hk.2.1 | exact hk.2.2 | trivial)), (by (with_reducible repeat (first | apply Kd.S_alloc | apply Kd.S_drewN | apply Kd.S_drew)); exact Kd.S_mono HO_6.out (fun _ hk => by and_intros <;> first | exact hk | exact hk.1 | exact hk.2 | exact hk.1.1 | exact hk.1.2 | exact hk.2.1 | exact hk.2.2 | trivial)), (by (with_reducible repeat (first | apply Kd.R_alloc | apply Kd.R_drewN | apply Kd.R_drew)); exact Kd.R_mono HO_8.out (fun _ hk => by and_intros <;> first | exact hk | exact hk.1 | exact hk.2 | exact hk.1.1 | exact hk.1.2 | exact hk.2.1 | exact hk.2.2 | trivial)), (by (with_reducible repeat (first | apply Kd.R_alloc | apply Kd.R_drewN | apply Kd.R_drew)); exact Kd.R_mono HO_9.out (fun _ hk => by and_intros <;> first | exact hk | exact hk.1 | exact hk.2 | exact hk.1.1 | exact hk.1.2 | exact hk.2.1 | exact hk.2.2 | trivial)), (bk_ BK313.out), (bl1_ HB.out GE313.out), fun _ => (by (with_reducible repeat (first | apply Kd.R_alloc | apply Kd.R_drewN | apply Kd.R_drew)); exact Kd.R_mono HO341.out (fun _ hk => by and_intros <;> first | exact hk | exact hk.1 | exact hk.2 | exact hk.1.1 | exact hk.1.2 | exact hk.2.1 | exact hk.2.2 | trivial)), fun _ => ⟨_, rfl⟩, z_HO345, Q_HA_HO345, fun h0_ => absurd ((hoff 3 (by kernel_rfl)).symm.trans h0_) (by decide), Q_X9_⟩
                       refine steps_cons ?_ ?_
                       ·rintro b a w' ⟨v340, adz_v340, v344, adz_v344, m3_, m9_, ha, Q_HO337, Q_HO_5, Q_HO_6, Q_HO_8, Q_HO_9, Q_BK313, Q_HB, Q_HO341, Q_HA_HO341, Q_HO345, Q_HA_HO345, Q_X3_, Q_X9_⟩ hb_ hon hoff
                        refine ⟨_, rfl, fun K hK => ?_⟩
                        have e91 : a.tmps[91]? = some (v340) := by rw [ha]; exact putSel_on (e := (1, 91, v340)) 0 rfl rfl (hon 1 (by kernel_rfl)) rfl
                        have e92 : a.tmps[92]? = some (.int .i64 x14_3) := by rw [ha]; exact (putSel_off rfl).trans rfl
                        replace ha := Aside0.mk ha
                        have HO337 := Aside0.mk Q_HO337
                        have HO_5 := Aside0.mk Q_HO_5
                        have HO_6 := Aside0.mk Q_HO_6
                        have HO_8 := Aside0.mk Q_HO_8
                        have HO_9 := Aside0.mk Q_HO_9
                        have BK313 := Aside0.mk Q_BK313
                        have HB := Aside0.mk Q_HB
                        have HO341 := Aside0.mk (Q_HO341 (hon 1 (by kernel_rfl)))
                        have HA_HO341 := Aside0.mk (Q_HA_HO341 (hon 1 (by kernel_rfl)))
                        obtain ⟨c_, hv_⟩ := HA_HO341.out
                        rw [hv_] at e91
                        refine value_ (w1 := w') (v := .pointer (some (adz_v340.add (x14_3).toNat))) (by rfl) rfl ?_ ?_
                        ·go_simp
                         (try simp only [i64_w])
                         try rfl
                        refine hK.out _ _ ⟨v340, adz_v340, v344, adz_v344, (.pointer (some (adz_v340.add (x14_3).toNat))), m9_, (by rw [ha.out]; exact putSel_upk 1 hb_ rfl rfl rfl), Q_HO337, Q_HO_5, Q_HO_6, Q_HO_8, Q_HO_9, Q_BK313, Q_HB, Q_HO341, Q_HA_HO341, Q_HO345, Q_HA_HO345, fun _ => rfl, Q_X9_⟩
                       refine steps_cons ?_ ?_
                       ·rintro b a w' ⟨v340, adz_v340, v344, adz_v344, m3_, m9_, ha, Q_HO337, Q_HO_5, Q_HO_6, Q_HO_8, Q_HO_9, Q_BK313, Q_HB, Q_HO341, Q_HA_HO341, Q_HO345, Q_HA_HO345, Q_X3_, Q_X9_⟩ hb_ hon hoff
                        refine ⟨_, rfl, fun K hK => ?_⟩
                        have e93 : a.tmps[93]? = some (m3_) := by rw [ha]; exact putSel_on (e := (3, 93, m3_)) 1 rfl rfl (hon 3 (by kernel_rfl)) rfl
                        rw [Q_X3_ (hon 3 (by kernel_rfl))] at e93
                        replace ha := Aside0.mk ha
                        have HO337 := Aside0.mk Q_HO337
                        have HO_5 := Aside0.mk Q_HO_5
                        have HO_6 := Aside0.mk Q_HO_6
                        have HO_8 := Aside0.mk Q_HO_8
                        have HO_9 := Aside0.mk Q_HO_9
                        have BK313 := Aside0.mk Q_BK313
                        have HB := Aside0.mk Q_HB
                        have HO341 := Aside0.mk (Q_HO341 (hon 1 (by kernel_rfl)))
                        have HA_HO341 := Aside0.mk (Q_HA_HO341 (hon 1 (by kernel_rfl)))
                        obtain ⟨c_, hv_⟩ := HA_HO341.out
                        have hF_ := HO341.out
                        rw [hv_] at hF_
                        obtain ⟨ad_, ea_, hx_⟩ := Kd.at_int (Kd.R_reads' hF_).2.2 x14_3 (of_eq_true pi342) (of_eq_true qi342)
                        cases ea_
                        refine value_ (w1 := w') (v := .int .i64 (rd y339 x14_3)) (by rfl) rfl ?_ ?_
                        ·go_simp
                         (try simp only [i64_w])
                         try rfl
                        refine hK.out _ _ ⟨v340, adz_v340, v344, adz_v344, m3_, m9_, (by rw [ha.out]; exact putSel_upk 2 hb_ rfl rfl rfl), Q_HO337, Q_HO_5, Q_HO_6, Q_HO_8, Q_HO_9, Q_BK313, Q_HB, Q_HO341, Q_HA_HO341, Q_HO345, Q_HA_HO345, Q_X3_, Q_X9_⟩
                       refine steps_cons ?_ ?_
                       ·rintro b a w' ⟨v340, adz_v340, v344, adz_v344, m3_, m9_, ha, Q_HO337, Q_HO_5, Q_HO_6, Q_HO_8, Q_HO_9, Q_BK313, Q_HB, Q_HO341, Q_HA_HO341, Q_HO345, Q_HA_HO345, Q_X3_, Q_X9_⟩ hb_ hon hoff
                        refine ⟨_, rfl, fun K hK => ?_⟩
                        have e90 : a.tmps[90]? = some (.int .i64 (Int.tmod (rd x8_2 x11_2) a0_0)) := by rw [ha]; exact (putSel_off rfl).trans rfl
                        have e94 : a.tmps[94]? = some (.int .i64 (rd y339 x14_3)) := by rw [ha]; exact putSel_on (e := (4, 94, .int .i64 (rd y339 x14_3))) 2 rfl rfl (hon 4 (by kernel_rfl)) rfl
                        replace ha := Aside0.mk ha
                        have HO337 := Aside0.mk Q_HO337
                        have HO_5 := Aside0.mk Q_HO_5
                        have HO_6 := Aside0.mk Q_HO_6
                        have HO_8 := Aside0.mk Q_HO_8
                        have HO_9 := Aside0.mk Q_HO_9
                        have BK313 := Aside0.mk Q_BK313
                        have HB := Aside0.mk Q_HB
                        have HO341 := Aside0.mk (Q_HO341 (hon 1 (by kernel_rfl)))
                        have HA_HO341 := Aside0.mk (Q_HA_HO341 (hon 1 (by kernel_rfl)))
                        refine value_ (w1 := w') (v := .int .i64 (wrap64 ((Int.tmod (rd x8_2 x11_2) a0_0) + (rd y339 x14_3)))) (by rfl) rfl ?_ ?_
                        ·go_simp
                         (try simp only [i64_w])
                         try rfl
                        refine hK.out _ _ ⟨v340, adz_v340, v344, adz_v344, m3_, m9_, (by rw [ha.out]; exact putSel_upk 3 hb_ rfl rfl rfl), Q_HO337, Q_HO_5, Q_HO_6, Q_HO_8, Q_HO_9, Q_BK313, Q_HB, Q_HO341, Q_HA_HO341, Q_HO345, Q_HA_HO345, Q_X3_, Q_X9_⟩
                       refine steps_cons ?_ ?_
                       ·rintro b a w' ⟨v340, adz_v340, v344, adz_v344, m3_, m9_, ha, Q_HO337, Q_HO_5, Q_HO_6, Q_HO_8, Q_HO_9, Q_BK313, Q_HB, Q_HO341, Q_HA_HO341, Q_HO345, Q_HA_HO345, Q_X3_, Q_X9_⟩ hb_ hon hoff
                        refine ⟨_, rfl, fun K hK => ?_⟩
                        replace ha := Aside0.mk ha
                        have HO337 := Aside0.mk Q_HO337
                        have HO_5 := Aside0.mk Q_HO_5
                        have HO_6 := Aside0.mk Q_HO_6
                        have HO_8 := Aside0.mk Q_HO_8
                        have HO_9 := Aside0.mk Q_HO_9
                        have BK313 := Aside0.mk Q_BK313
                        have HB := Aside0.mk Q_HB
                        refine Kd.R_lit_step (Kd.int .i64) _ 3 ?hg (N := 97) ?hd (xs := ([(-1), 0, 1, 0] : List Int)) (inner := [.int .i64 (-1), .int .i64 0, .int .i64 1, .int .i64 0]) (ok := fun _ => True) (okp := fun _ => True) ?hr ?hp (fun _ hk => hk) trivial (Below.refl _ _) (Nat.le_refl _) (by simp) ?_; (case hd => rfl); (case hg => rfl); (case hr => first | (go_simp; done) | (go_simp; rfl)); (case hp => exact (Reps.one (show Kd.M (Kd.int .i64) _ _ _ (-1) [.int .i64 (-1)] from rfl) (Reps.one (show Kd.M (Kd.int .i64) _ _ _ 0 [.int .i64 0] from rfl) (Reps.one (show Kd.M (Kd.int .i64) _ _ _ 1 [.int .i64 1] from rfl) (Reps.one (show Kd.M (Kd.int .i64) _ _ _ 0 [.int .i64 0] from rfl) (Reps.none _ _))))))
                        intro v344 w67 ho68 hb hg_ hnew_
                        clear hg_ hnew_
                        (first | rw [← Ny343.out] at ho68 | (simp only [Int.reduceToNat] at ho68; rw [← Ny343.out] at ho68))
                        have n0_ := Aside0.mk (Kd.R_below (kr_ HO_5.out) hb)
                        have n1_ := Aside0.mk (Kd.S_elder' (by (with_reducible repeat (first | apply Kd.S_alloc | apply Kd.S_drewN | apply Kd.S_drew)); exact HO_6.out) (Kd.R_base ho68) hb)
                        have n2_ := Aside0.mk (Kd.R_elder' (kr_ HO_8.out) (Kd.R_base ho68) hb)
                        have n3_ := Aside0.mk (Kd.R_elder' (kr_ HO_9.out) (Kd.R_base ho68) hb)
                        have n4_ := Aside0.mk (Kd.R_below (kr_ HO337.out) hb)
                        have n5_ := Aside0.mk (Kd.R_lower (Kd.R_new' (Kd.R_new' ho68 (Kd.R_lt (kr_ HO_8.out))) (Kd.R_lt (kr_ HO_9.out))) (below_size (bl1_ HB.out GE313.out)))
                        have n6_ := Aside0.mk (bb_ BK313.out hb)
                        have n7_ := Aside0.mk (below_step (bl1_ HB.out GE313.out) hb)
                        have z_HO341 := fun (h0_ : b 1 = true) => (show Kd.R (Kd.int .i64) 3 w67 w.heap.size (fun k_ => some k_ ≠ (u8 : Value).ownBlock ∧ some k_ ≠ (v329 : Value).ownBlock) v340 y339 from by first | exact (Kd.R_elder' (by (with_reducible repeat (first | apply Kd.R_alloc | apply Kd.R_drewN | apply Kd.R_drew)); exact (Q_HO341 h0_)) (Kd.R_base ho68) hb) | exact Kd.R_mono (Kd.R_elder' (by (with_reducible repeat (first | apply Kd.R_alloc | apply Kd.R_drewN | apply Kd.R_drew)); exact (Q_HO341 h0_)) (Kd.R_base ho68) hb) (fun _ h_ => by first | trivial | exact h_ | exact h_.1))
                        clear HO_5
                        clear HO_6
                        clear HO_8
                        clear HO_9
                        clear HO337
                        clear BK313
                        clear HB
                        have HO_5 := n0_
                        have HO_6 := n1_
                        have HO_8 := n2_
                        have HO_9 := n3_
                        have HO337 := n4_
                        have HO345 := n5_
                        have BK313 := n6_
                        have HB := n7_
                        clear n0_ n1_ n2_ n3_ n4_ n5_ n6_ n7_
                        clear hb ho68
                        obtain ⟨Ao69, co69, eo69⟩ := Kd.R_slice HO345.out
                        subst eo69
                        obtain ⟨ado69, fo69, _⟩ := Kd.at_int (Kd.R_reads' HO345.out).2.2 0 (by decide) (by rw [Ny343.out]; simp)
                        cases fo69
                        refine hK.out _ _ ⟨v340, adz_v340, .slice (some ado69) y343.length co69, ado69, m3_, m9_, (by rw [ha.out]; exact putSel_upk 4 hb_ rfl rfl rfl), (by (with_reducible repeat (first | apply Kd.R_alloc | apply Kd.R_drewN | apply Kd.R_drew)); exact Kd.R_mono HO337.out (fun _ hk => by and_intros <;> first | exact hk | exact hk.1 | exact hk.2 | exact hk.1.1 | exact hk.1.2 | exact hk.2.1 | exact hk.2.2 | trivial)), (by (with_reducible repeat (first | apply Kd.R_alloc | apply Kd.R_drewN | apply Kd.R_drew)); exact Kd.R_mono HO_5.out (fun _ hk => by and_intros <;> first | exact hk | exact hk.1 | exact hk.2 | exact hk.1.1 | exact hk.1.2 | exact hk.2.1 | exact hk.2.2 | trivial)), (by (with_reducible repeat (first | apply Kd.S_alloc | apply Kd.S_drewN | apply Kd.S_drew)); exact Kd.S_mono HO_6.out (fun _ hk => by and_intros <;> first | exact hk | exact hk.1 | exact hk.2 | exact hk.1.1 | exact hk.1.2 | exact hk.2.1 | exact hk.2.2 | trivial)), (by (with_reducible repeat (first | apply Kd.R_alloc | apply Kd.R_drewN | apply Kd.R_drew)); exact Kd.R_mono HO_8.out (fun _ hk => by and_intros <;> first | exact hk | exact hk.1 | exact hk.2 | exact hk.1.1 | exact hk.1.2 | exact hk.2.1 | exact hk.2.2 | trivial)), (by (with_reducible repeat (first | apply Kd.R_alloc | apply Kd.R_drewN | apply Kd.R_drew)); exact Kd.R_mono HO_9.out (fun _ hk => by and_intros <;> first | exact hk | exact hk.1 | exact hk.2 | exact hk.1.1 | exact hk.1.2 | exact hk.2.1 | exact hk.2.2 | trivial)), (bk_ BK313.out), (bl1_ HB.out GE313.out), z_HO341, Q_HA_HO341, fun _ => (by (with_reducible repeat (first | apply Kd.R_alloc | apply Kd.R_drewN | apply Kd.R_drew)); exact Kd.R_mono HO345.out (fun _ hk => by and_intros <;> first | exact hk | exact hk.1 | exact hk.2 | exact hk.1.1 | exact hk.1.2 | exact hk.2.1 | exact hk.2.2 | trivial)), fun _ => ⟨_, rfl⟩, Q_X3_, fun h0_ => absurd ((hoff 9 (by kernel_rfl)).symm.trans h0_) (by decide)⟩
                       refine steps_cons ?_ ?_
                       ·rintro b a w' ⟨v340, adz_v340, v344, adz_v344, m3_, m9_, ha, Q_HO337, Q_HO_5, Q_HO_6, Q_HO_8, Q_HO_9, Q_BK313, Q_HB, Q_HO341, Q_HA_HO341, Q_HO345, Q_HA_HO345, Q_X3_, Q_X9_⟩ hb_ hon hoff
                        refine ⟨_, rfl, fun K hK => ?_⟩
                        have e97 : a.tmps[97]? = some (v344) := by rw [ha]; exact putSel_on (e := (7, 97, v344)) 4 rfl rfl (hon 7 (by kernel_rfl)) rfl
                        have e98 : a.tmps[98]? = some (.int .i64 x14_3) := by rw [ha]; exact (putSel_off rfl).trans rfl
                        replace ha := Aside0.mk ha
                        have HO337 := Aside0.mk Q_HO337
                        have HO_5 := Aside0.mk Q_HO_5
                        have HO_6 := Aside0.mk Q_HO_6
                        have HO_8 := Aside0.mk Q_HO_8
                        have HO_9 := Aside0.mk Q_HO_9
                        have BK313 := Aside0.mk Q_BK313
                        have HB := Aside0.mk Q_HB
                        have HO345 := Aside0.mk (Q_HO345 (hon 7 (by kernel_rfl)))
                        have HA_HO345 := Aside0.mk (Q_HA_HO345 (hon 7 (by kernel_rfl)))
                        obtain ⟨c_, hv_⟩ := HA_HO345.out
                        rw [hv_] at e97
                        refine value_ (w1 := w') (v := .pointer (some (adz_v344.add (x14_3).toNat))) (by rfl) rfl ?_ ?_
                        ·go_simp
                         (try simp only [i64_w])
                         try rfl
                        refine hK.out _ _ ⟨v340, adz_v340, v344, adz_v344, m3_, (.pointer (some (adz_v344.add (x14_3).toNat))), (by rw [ha.out]; exact putSel_upk 5 hb_ rfl rfl rfl), Q_HO337, Q_HO_5, Q_HO_6, Q_HO_8, Q_HO_9, Q_BK313, Q_HB, Q_HO341, Q_HA_HO341, Q_HO345, Q_HA_HO345, Q_X3_, fun _ => rfl⟩
                       refine steps_cons ?_ ?_
                       ·rintro b a w' ⟨v340, adz_v340, v344, adz_v344, m3_, m9_, ha, Q_HO337, Q_HO_5, Q_HO_6, Q_HO_8, Q_HO_9, Q_BK313, Q_HB, Q_HO341, Q_HA_HO341, Q_HO345, Q_HA_HO345, Q_X3_, Q_X9_⟩ hb_ hon hoff
                        refine ⟨_, rfl, fun K hK => ?_⟩
                        have e99 : a.tmps[99]? = some (m9_) := by rw [ha]; exact putSel_on (e := (9, 99, m9_)) 5 rfl rfl (hon 9 (by kernel_rfl)) rfl
                        rw [Q_X9_ (hon 9 (by kernel_rfl))] at e99
                        replace ha := Aside0.mk ha
                        have HO337 := Aside0.mk Q_HO337
                        have HO_5 := Aside0.mk Q_HO_5
                        have HO_6 := Aside0.mk Q_HO_6
                        have HO_8 := Aside0.mk Q_HO_8
                        have HO_9 := Aside0.mk Q_HO_9
                        have BK313 := Aside0.mk Q_BK313
                        have HB := Aside0.mk Q_HB
                        have HO345 := Aside0.mk (Q_HO345 (hon 7 (by kernel_rfl)))
                        have HA_HO345 := Aside0.mk (Q_HA_HO345 (hon 7 (by kernel_rfl)))
                        obtain ⟨c_, hv_⟩ := HA_HO345.out
                        have hF_ := HO345.out
                        rw [hv_] at hF_
                        obtain ⟨ad_, ea_, hx_⟩ := Kd.at_int (Kd.R_reads' hF_).2.2 x14_3 (of_eq_true pi346) (of_eq_true qi346)
                        cases ea_
                        refine value_ (w1 := w') (v := .int .i64 (rd y343 x14_3)) (by rfl) rfl ?_ ?_
                        ·go_simp
                         (try simp only [i64_w])
                         try rfl
                        refine hK.out _ _ ⟨v340, adz_v340, v344, adz_v344, m3_, m9_, (by rw [ha.out]; exact putSel_upk 6 hb_ rfl rfl rfl), Q_HO337, Q_HO_5, Q_HO_6, Q_HO_8, Q_HO_9, Q_BK313, Q_HB, Q_HO341, Q_HA_HO341, Q_HO345, Q_HA_HO345, Q_X3_, Q_X9_⟩
                       refine steps_cons ?_ ?_
                       ·rintro b a w' ⟨v340, adz_v340, v344, adz_v344, m3_, m9_, ha, Q_HO337, Q_HO_5, Q_HO_6, Q_HO_8, Q_HO_9, Q_BK313, Q_HB, Q_HO341, Q_HA_HO341, Q_HO345, Q_HA_HO345, Q_X3_, Q_X9_⟩ hb_ hon hoff
                        refine ⟨_, rfl, fun K hK => ?_⟩
                        have e96 : a.tmps[96]? = some (.int .i64 (wrap64 (Int.tdiv (rd x8_2 x11_2) a0_0))) := by rw [ha]; exact (putSel_off rfl).trans rfl
                        have e100 : a.tmps[100]? = some (.int .i64 (rd y343 x14_3)) := by rw [ha]; exact putSel_on (e := (10, 100, .int .i64 (rd y343 x14_3))) 6 rfl rfl (hon 10 (by kernel_rfl)) rfl
                        replace ha := Aside0.mk ha
                        have HO337 := Aside0.mk Q_HO337
                        have HO_5 := Aside0.mk Q_HO_5
                        have HO_6 := Aside0.mk Q_HO_6
                        have HO_8 := Aside0.mk Q_HO_8
                        have HO_9 := Aside0.mk Q_HO_9
                        have BK313 := Aside0.mk Q_BK313
                        have HB := Aside0.mk Q_HB
                        have HO345 := Aside0.mk (Q_HO345 (hon 7 (by kernel_rfl)))
                        have HA_HO345 := Aside0.mk (Q_HA_HO345 (hon 7 (by kernel_rfl)))
                        refine value_ (w1 := w') (v := .int .i64 (wrap64 ((wrap64 (Int.tdiv (rd x8_2 x11_2) a0_0)) + (rd y343 x14_3)))) (by rfl) rfl ?_ ?_
                        ·go_simp
                         (try simp only [i64_w])
                         try rfl
                        refine hK.out _ _ ⟨v340, adz_v340, v344, adz_v344, m3_, m9_, (by rw [ha.out]; exact putSel_upk 7 hb_ rfl rfl rfl), Q_HO337, Q_HO_5, Q_HO_6, Q_HO_8, Q_HO_9, Q_BK313, Q_HB, Q_HO341, Q_HA_HO341, Q_HO345, Q_HA_HO345, Q_X3_, Q_X9_⟩
                       refine steps_cons ?_ ?_
                       ·rintro b a w' ⟨v340, adz_v340, v344, adz_v344, m3_, m9_, ha, Q_HO337, Q_HO_5, Q_HO_6, Q_HO_8, Q_HO_9, Q_BK313, Q_HB, Q_HO341, Q_HA_HO341, Q_HO345, Q_HA_HO345, Q_X3_, Q_X9_⟩ hb_ hon hoff
                        refine ⟨_, rfl, fun K hK => ?_⟩
                        have e95 : a.tmps[95]? = some (.int .i64 (wrap64 ((Int.tmod (rd x8_2 x11_2) a0_0) + (rd y339 x14_3)))) := by rw [ha]; exact putSel_on (e := (5, 95, .int .i64 (wrap64 ((Int.tmod (rd x8_2 x11_2) a0_0) + (rd y339 x14_3))))) 3 rfl rfl (hon 5 (by kernel_rfl)) rfl
                        replace ha := Aside0.mk ha
                        have HO337 := Aside0.mk Q_HO337
                        have HO_5 := Aside0.mk Q_HO_5
                        have HO_6 := Aside0.mk Q_HO_6
                        have HO_8 := Aside0.mk Q_HO_8
                        have HO_9 := Aside0.mk Q_HO_9
                        have BK313 := Aside0.mk Q_BK313
                        have HB := Aside0.mk Q_HB
                        have HO341 := Aside0.mk (Q_HO341 (hon 1 (by kernel_rfl)))
                        have HA_HO341 := Aside0.mk (Q_HA_HO341 (hon 1 (by kernel_rfl)))
                        refine value_ (w1 := w') (v := .int .i64 (wrap64 ((Int.tmod (rd x8_2 x11_2) a0_0) + (rd y339 x14_3)))) (by rfl) rfl ?_ ?_
                        ·go_simp
                         (try simp only [i64_w])
                         try rfl
                        refine hK.out _ _ ⟨v340, adz_v340, v344, adz_v344, m3_, m9_, (by rw [ha.out]; exact putSel_upk 8 hb_ rfl rfl rfl), Q_HO337, Q_HO_5, Q_HO_6, Q_HO_8, Q_HO_9, Q_BK313, Q_HB, Q_HO341, Q_HA_HO341, Q_HO345, Q_HA_HO345, Q_X3_, Q_X9_⟩
                       refine steps_cons ?_ ?_
                       ·rintro b a w' ⟨v340, adz_v340, v344, adz_v344, m3_, m9_, ha, Q_HO337, Q_HO_5, Q_HO_6, Q_HO_8, Q_HO_9, Q_BK313, Q_HB, Q_HO341, Q_HA_HO341, Q_HO345, Q_HA_HO345, Q_X3_, Q_X9_⟩ hb_ hon hoff
                        refine ⟨_, rfl, fun K hK => ?_⟩
                        have e101 : a.tmps[101]? = some (.int .i64 (wrap64 ((wrap64 (Int.tdiv (rd x8_2 x11_2) a0_0)) + (rd y343 x14_3)))) := by rw [ha]; exact putSel_on (e := (11, 101, .int .i64 (wrap64 ((wrap64 (Int.tdiv (rd x8_2 x11_2) a0_0)) + (rd y343 x14_3))))) 7 rfl rfl (hon 11 (by kernel_rfl)) rfl
                        replace ha := Aside0.mk ha
                        have HO337 := Aside0.mk Q_HO337
                        have HO_5 := Aside0.mk Q_HO_5
                        have HO_6 := Aside0.mk Q_HO_6
                        have HO_8 := Aside0.mk Q_HO_8
                        have HO_9 := Aside0.mk Q_HO_9
                        have BK313 := Aside0.mk Q_BK313
                        have HB := Aside0.mk Q_HB
                        have HO341 := Aside0.mk (Q_HO341 (hon 1 (by kernel_rfl)))
                        have HA_HO341 := Aside0.mk (Q_HA_HO341 (hon 1 (by kernel_rfl)))
                        have HO345 := Aside0.mk (Q_HO345 (hon 7 (by kernel_rfl)))
                        have HA_HO345 := Aside0.mk (Q_HA_HO345 (hon 7 (by kernel_rfl)))
                        refine value_ (w1 := w') (v := .int .i64 (wrap64 ((wrap64 (Int.tdiv (rd x8_2 x11_2) a0_0)) + (rd y343 x14_3)))) (by rfl) rfl ?_ ?_
                        ·go_simp
                         (try simp only [i64_w])
                         try rfl
                        refine hK.out _ _ ⟨v340, adz_v340, v344, adz_v344, m3_, m9_, (by rw [ha.out]; exact putSel_upk 9 hb_ rfl rfl rfl), Q_HO337, Q_HO_5, Q_HO_6, Q_HO_8, Q_HO_9, Q_BK313, Q_HB, Q_HO341, Q_HA_HO341, Q_HO345, Q_HA_HO345, Q_X3_, Q_X9_⟩
                       exact steps_nil
                      rintro b a w73 hall ⟨v340, adz_v340, v344, adz_v344, m3_, m9_, ha, Q_HO337, Q_HO_5, Q_HO_6, Q_HO_8, Q_HO_9, Q_BK313, Q_HB, Q_HO341, Q_HA_HO341, Q_HO345, Q_HA_HO345, Q_X3_, Q_X9_⟩
                      clear BK313 HB HO337 HO_5 HO_6 HO_8 HO_9
                      have hb1_ := hall 1 (by kernel_rfl)
                      have hb3_ := hall 3 (by kernel_rfl)
                      have hb4_ := hall 4 (by kernel_rfl)
                      have hb5_ := hall 5 (by kernel_rfl)
                      have hb7_ := hall 7 (by kernel_rfl)
                      have hb9_ := hall 9 (by kernel_rfl)
                      have hb10_ := hall 10 (by kernel_rfl)
                      have hb11_ := hall 11 (by kernel_rfl)
                      have hb12_ := hall 12 (by kernel_rfl)
                      have hb13_ := hall 13 (by kernel_rfl)
                      subst ha
                      obtain rfl := Q_X3_ hb3_
                      obtain rfl := Q_X9_ hb9_
                      simp only [putSel, hb1_, hb3_, hb4_, hb5_, hb7_, hb9_, hb10_, hb11_, hb12_, hb13_, if_true, Act.put, List.setIfInBounds_toArray, List.set_cons_zero, List.set_cons_succ]
                      have HO337 := Aside0.mk Q_HO337
                      clear Q_HO337
                      have HO_5 := Aside0.mk Q_HO_5
                      clear Q_HO_5
                      have HO_6 := Aside0.mk Q_HO_6
                      clear Q_HO_6
                      have HO_8 := Aside0.mk Q_HO_8
                      clear Q_HO_8
                      have HO_9 := Aside0.mk Q_HO_9
                      clear Q_HO_9
                      have BK313 := Aside0.mk Q_BK313
                      clear Q_BK313
                      have HB := Aside0.mk Q_HB
                      clear Q_HB
                      have HO341 := Aside0.mk (Q_HO341 hb1_)
                      clear Q_HO341
                      have HA_HO341 := Aside0.mk (Q_HA_HO341 hb1_)
                      clear Q_HA_HO341
                      have HO345 := Aside0.mk (Q_HO345 hb7_)
                      clear Q_HO345
                      have HA_HO345 := Aside0.mk (Q_HA_HO345 hb7_)
                      clear Q_HA_HO345
                      clear hall hb1_ hb3_ hb4_ hb5_ hb7_ hb9_ hb10_ hb11_ hb12_ hb13_
                      obtain ⟨co74, eo74⟩ := HA_HO341.out
                      clear HA_HO341
                      subst eo74
                      obtain ⟨co75, eo75⟩ := HA_HO345.out
                      clear HA_HO345
                      subst eo75
                      go_upto_region 23 with (fail)
                      go_cut [104] (fun v104 wc => ∃ (kq : Nat) (x104_56 : Bool), v104 = .bool x104_56 ∧ Aside0 (spec_liRegions.j3 kq a0_0 a0_1 x5_3 x6_1 x8_3 t328 x10_3 x11_2 (Int.tmod (rd x8_2 x11_2) a0_0) (wrap64 (Int.tdiv (rd x8_2 x11_2) a0_0)) x14_3 (wrap64 ((Int.tmod (rd x8_2 x11_2) a0_0) + (rd y339 x14_3))) (wrap64 ((wrap64 (Int.tdiv (rd x8_2 x11_2) a0_0)) + (rd y343 x14_3))) (y314.length : Int) x28_1 x104_56 a0_0 a0_1 l0_2 l0_3 = some r) ∧ Aside0 (kq ≤ k3) ∧ Aside0 (Kd.R Kd.bool 4 wc w.heap.size (fun _ => True) (.slice (some ⟨go15, 0, none⟩) x5_3.length co9) x5_3) ∧ Aside0 (Kd.S (Kd.slice 3 (Kd.int .i64)) 22 wc w.heap.size (fun k_ => some k_ ≠ (u8 : Value).ownBlock ∧ some k_ ≠ (v329 : Value).ownBlock) u6 x6_1) ∧ Aside0 (Kd.R (Kd.int .i64) 3 wc w.heap.size (fun k_ => some k_ ≠ (v329 : Value).ownBlock) u8 x8_3) ∧ Aside0 (Kd.R (Kd.int .i64) 3 wc w.heap.size (fun k_ => some k_ ≠ (u8 : Value).ownBlock) v329 t328) ∧ Aside0 (wc.heap[gb313]? = some (.cells #[.int .i64 a0_0, .int .i64 a0_1, (.slice A0_2 l0_2.length c0_2), (.slice A0_3 l0_3.length c0_3)] 28 (0, 0))) ∧ Aside0 (Below w.heap.size w wc))
                      case first =>
                       have H := HC57.out
                       clear HC57
                       replace H := Option.bind_eq_some_iff.mp H
                       obtain ⟨t347, A760, H⟩ := H
                       replace H : (if t347 = true then ((spec_l1In.f (wrap64 ((wrap64 (Int.tdiv (rd x8_2 x11_2) a0_0)) + (rd y343 x14_3))) 0 (wrap64 (a0_1 - 1))).bind fun t348 => (spec_liRegions.j3 k3 a0_0 a0_1 x5_3 x6_1 x8_3 t328 x10_3 x11_2 (Int.tmod (rd x8_2 x11_2) a0_0) (wrap64 (Int.tdiv (rd x8_2 x11_2) a0_0)) x14_3 (wrap64 ((Int.tmod (rd x8_2 x11_2) a0_0) + (rd y339 x14_3))) (wrap64 ((wrap64 (Int.tdiv (rd x8_2 x11_2) a0_0)) + (rd y343 x14_3))) (y314.length : Int) x28_1 (!t348) a0_0 a0_1 l0_2 l0_3)) else (spec_liRegions.j3 k3 a0_0 a0_1 x5_3 x6_1 x8_3 t328 x10_3 x11_2 (Int.tmod (rd x8_2 x11_2) a0_0) (wrap64 (Int.tdiv (rd x8_2 x11_2) a0_0)) x14_3 (wrap64 ((Int.tmod (rd x8_2 x11_2) a0_0) + (rd y339 x14_3))) (wrap64 ((wrap64 (Int.tdiv (rd x8_2 x11_2) a0_0)) + (rd y343 x14_3))) (y314.length : Int) x28_1 true a0_0 a0_1 l0_2 l0_3)) = some r := H
                       have A76 := Aside0.mk A760
                       clear A760
                       by_cases c77 : t347 = true
                       ·subst c77
                        have H1 : ((spec_l1In.f (wrap64 ((wrap64 (Int.tdiv (rd x8_2 x11_2) a0_0)) + (rd y343 x14_3))) 0 (wrap64 (a0_1 - 1))).bind fun t348 => (spec_liRegions.j3 k3 a0_0 a0_1 x5_3 x6_1 x8_3 t328 x10_3 x11_2 (Int.tmod (rd x8_2 x11_2) a0_0) (wrap64 (Int.tdiv (rd x8_2 x11_2) a0_0)) x14_3 (wrap64 ((Int.tmod (rd x8_2 x11_2) a0_0) + (rd y339 x14_3))) (wrap64 ((wrap64 (Int.tdiv (rd x8_2 x11_2) a0_0)) + (rd y343 x14_3))) (y314.length : Int) x28_1 (!t348) a0_0 a0_1 l0_2 l0_3)) = some r := by rw [if_pos rfl] at H; exact H
                        clear H
                        have H := H1
                        clear H1
                        replace H := Option.bind_eq_some_iff.mp H
                        obtain ⟨t348, A780, H⟩ := H
                        replace H : (spec_liRegions.j3 k3 a0_0 a0_1 x5_3 x6_1 x8_3 t328 x10_3 x11_2 (Int.tmod (rd x8_2 x11_2) a0_0) (wrap64 (Int.tdiv (rd x8_2 x11_2) a0_0)) x14_3 (wrap64 ((Int.tmod (rd x8_2 x11_2) a0_0) + (rd y339 x14_3))) (wrap64 ((wrap64 (Int.tdiv (rd x8_2 x11_2) a0_0)) + (rd y343 x14_3))) (y314.length : Int) x28_1 (!t348) a0_0 a0_1 l0_2 l0_3) = some r := H
                        have A78 := Aside0.mk A780
                        clear A780
                        have H' := Aside0.mk H
                        clear H
                        go_wp2_with (first | ((with_reducible refine gate_callee (f := 96) rfl ?_); refine goesL_ (some 108) rfl rfl Try.func96 (by kernel_rfl) rfl #[.int .i64 (wrap64 ((Int.tmod (rd x8_2 x11_2) a0_0) + (rd y339 x14_3))), .int .i64 0, .int .i64 (wrap64 (a0_0 - 1))] rfl ob_ ?_; (with_reducible refine (spec_l1In.calls (wrap64 ((Int.tmod (rd x8_2 x11_2) a0_0) + (rd y339 x14_3))) 0 (wrap64 (a0_0 - 1)) true _ A76.out).mono ?_); rintro e w' ⟨rfl, ⟨nd, rfl⟩⟩; refine ⟨_, rfl, ?_⟩) | (go_at_call 96; (with_reducible refine (spec_l1In.calls (wrap64 ((wrap64 (Int.tdiv (rd x8_2 x11_2) a0_0)) + (rd y343 x14_3))) 0 (wrap64 (a0_1 - 1)) t348 _ A78.out).mono ?_); rintro e w' ⟨rfl, ⟨nd, rfl⟩⟩))
                        go_meet
                        case rel => exact ⟨_, (!t348), rs_, H', ⟨by have := HK1.out; have := HK2.out; have := HK3.out; first | omega | exact Nat.le_refl _⟩, ⟨by (try simp only [hl5_1]); (try simp only [hl5_2]); (try simp only [hl5_3]); (with_reducible repeat (first | apply Kd.R_alloc | apply Kd.R_drewN | apply Kd.R_drew)); exact Kd.R_mono HO_5.out (fun _ hk => trivial)⟩, ⟨by (try simp only [hl5_1]); (try simp only [hl5_2]); (try simp only [hl5_3]); (with_reducible repeat (first | apply Kd.S_alloc | apply Kd.S_drewN | apply Kd.S_drew)); exact Kd.S_mono HO_6.out (fun _ hk => by and_intros <;> first | exact hk | exact hk.1 | exact hk.2 | exact hk.1.1 | exact hk.1.2 | exact hk.2.1 | exact hk.2.2 | trivial)⟩, ⟨by (try simp only [hl5_1]); (try simp only [hl5_2]); (try simp only [hl5_3]); (with_reducible repeat (first | apply Kd.R_alloc | apply Kd.R_drewN | apply Kd.R_drew)); exact Kd.R_mono HO_8.out (fun _ hk => by and_intros <;> first | exact hk | exact hk.1 | exact hk.2 | exact hk.1.1 | exact hk.1.2 | exact hk.2.1 | exact hk.2.2 | trivial)⟩, ⟨by (try simp only [hl5_1]); (try simp only [hl5_2]); (try simp only [hl5_3]); (with_reducible repeat (first | apply Kd.R_alloc | apply Kd.R_drewN | apply Kd.R_drew)); exact Kd.R_mono HO_9.out (fun _ hk => by and_intros <;> first | exact hk | exact hk.1 | exact hk.2 | exact hk.1.1 | exact hk.1.2 | exact hk.2.1 | exact hk.2.2 | trivial)⟩, ⟨by (try simp only [hl5_1]); (try simp only [hl5_2]); (try simp only [hl5_3]); (with_reducible repeat (first | refine blk_drewN ?_ _ | refine blk_drew ?_ | refine blk_alloc ?_ _)); exact BK313.out⟩, ⟨bl1_ HB.out GE313.out⟩⟩
                       ·replace c77 := Bool.eq_false_iff.mpr c77
                        subst c77
                        have H1 : (spec_liRegions.j3 k3 a0_0 a0_1 x5_3 x6_1 x8_3 t328 x10_3 x11_2 (Int.tmod (rd x8_2 x11_2) a0_0) (wrap64 (Int.tdiv (rd x8_2 x11_2) a0_0)) x14_3 (wrap64 ((Int.tmod (rd x8_2 x11_2) a0_0) + (rd y339 x14_3))) (wrap64 ((wrap64 (Int.tdiv (rd x8_2 x11_2) a0_0)) + (rd y343 x14_3))) (y314.length : Int) x28_1 true a0_0 a0_1 l0_2 l0_3) = some r := by rw [if_neg (show ¬ (false = true) by decide)] at H; exact H
                        clear H
                        have H := H1
                        clear H1
                        have H' := Aside0.mk H
                        clear H
                        go_wp2_with (first | ((with_reducible refine gate_callee (f := 96) rfl ?_); refine goesL_ (some 108) rfl rfl Try.func96 (by kernel_rfl) rfl #[.int .i64 (wrap64 ((Int.tmod (rd x8_2 x11_2) a0_0) + (rd y339 x14_3))), .int .i64 0, .int .i64 (wrap64 (a0_0 - 1))] rfl ob_ ?_; (with_reducible refine (spec_l1In.calls (wrap64 ((Int.tmod (rd x8_2 x11_2) a0_0) + (rd y339 x14_3))) 0 (wrap64 (a0_0 - 1)) false _ A76.out).mono ?_); rintro e w' ⟨rfl, ⟨nd, rfl⟩⟩; refine ⟨_, rfl, ?_⟩))
                        go_meet
                        case rel => exact ⟨_, (true), rs_, H', ⟨by have := HK1.out; have := HK2.out; have := HK3.out; first | omega | exact Nat.le_refl _⟩, ⟨by (try simp only [hl5_1]); (try simp only [hl5_2]); (try simp only [hl5_3]); (with_reducible repeat (first | apply Kd.R_alloc | apply Kd.R_drewN | apply Kd.R_drew)); exact Kd.R_mono HO_5.out (fun _ hk => trivial)⟩, ⟨by (try simp only [hl5_1]); (try simp only [hl5_2]); (try simp only [hl5_3]); (with_reducible repeat (first | apply Kd.S_alloc | apply Kd.S_drewN | apply Kd.S_drew)); exact Kd.S_mono HO_6.out (fun _ hk => by and_intros <;> first | exact hk | exact hk.1 | exact hk.2 | exact hk.1.1 | exact hk.1.2 | exact hk.2.1 | exact hk.2.2 | trivial)⟩, ⟨by (try simp only [hl5_1]); (try simp only [hl5_2]); (try simp only [hl5_3]); (with_reducible repeat (first | apply Kd.R_alloc | apply Kd.R_drewN | apply Kd.R_drew)); exact Kd.R_mono HO_8.out (fun _ hk => by and_intros <;> first | exact hk | exact hk.1 | exact hk.2 | exact hk.1.1 | exact hk.1.2 | exact hk.2.1 | exact hk.2.2 | trivial)⟩, ⟨by (try simp only [hl5_1]); (try simp only [hl5_2]); (try simp only [hl5_3]); (with_reducible repeat (first | apply Kd.R_alloc | apply Kd.R_drewN | apply Kd.R_drew)); exact Kd.R_mono HO_9.out (fun _ hk => by and_intros <;> first | exact hk | exact hk.1 | exact hk.2 | exact hk.1.1 | exact hk.1.2 | exact hk.2.1 | exact hk.2.2 | trivial)⟩, ⟨by (try simp only [hl5_1]); (try simp only [hl5_2]); (try simp only [hl5_3]); (with_reducible repeat (first | refine blk_drewN ?_ _ | refine blk_drew ?_ | refine blk_alloc ?_ _)); exact BK313.out⟩, ⟨bl1_ HB.out GE313.out⟩⟩
                      case rest =>
                       clear HC57
                       try clear p2
                       try clear p3
                       try clear q3
                       try clear hx3
                       try clear qi3
                       try clear p6
                       try clear c7
                       try clear c9
                       try clear p33
                       try clear q33
                       try clear hx33
                       try clear qi34
                       try clear p64
                       try clear c77
                       try clear c78
                       try clear hx338_0
                       try clear p338
                       try clear q338
                       obtain ⟨kq, x104_56, rfl, HA, HJ56, HO_5, HO_6, HO_8, HO_9, BK313, HB⟩ := hcut
                       cases kq with
                       | zero => exact absurd HA.out (by simp [spec_liRegions.j3])
                       | succ kj56 =>
                        have H := HA.out
                        clear HA
                        simp only [spec_liRegions.j3] at H
                        by_cases c79 : x104_56 = true
                        ·subst c79
                         have H1 : (spec_liRegions.l2 kj56 a0_0 a0_1 x5_3 x6_1 x8_3 t328 true x11_2 (Int.tmod (rd x8_2 x11_2) a0_0) (wrap64 (Int.tdiv (rd x8_2 x11_2) a0_0)) (wrap64 (x14_3 + 1)) (y314.length : Int) x28_1 a0_0 a0_1 l0_2 l0_3) = some r := by rw [if_pos rfl] at H; exact H
                         clear H
                         have H := H1
                         clear H1
                         have H' := Aside0.mk H
                         clear H
                         go_wp2
                         (try simp only [← hl5_3])
                         go_roundg kj56
                         case measure => have := HK1.out; have := HK2.out; have := HK3.out; have := HJ56.out; omega
                         case rel => exact ⟨(x5_3), (x8_3), (true), (wrap64 (x14_3 + 1)), rs_, rs_, H', ⟨by have := HK1.out; have := HK2.out; have := HK3.out; have := HJ56.out; omega⟩, ⟨by (try simp only [hl5_1]); (try simp only [hl5_2]); (try simp only [hl5_3]); (with_reducible repeat (first | apply Kd.R_alloc | apply Kd.R_drewN | apply Kd.R_drew)); exact HO_5.out⟩, ⟨by (try simp only [hl5_1]); (try simp only [hl5_2]); (try simp only [hl5_3]); (with_reducible repeat (first | apply Kd.S_alloc | apply Kd.S_drewN | apply Kd.S_drew)); exact HO_6.out⟩, ⟨by (try simp only [hl5_1]); (try simp only [hl5_2]); (try simp only [hl5_3]); (with_reducible repeat (first | apply Kd.R_alloc | apply Kd.R_drewN | apply Kd.R_drew)); exact HO_8.out⟩, ⟨by (try simp only [hl5_1]); (try simp only [hl5_2]); (try simp only [hl5_3]); (with_reducible repeat (first | apply Kd.R_alloc | apply Kd.R_drewN | apply Kd.R_drew)); exact HO_9.out⟩, ⟨by (try simp only [hl5_1]); (try simp only [hl5_2]); (try simp only [hl5_3]); (with_reducible repeat (first | refine blk_drewN ?_ _ | refine blk_drew ?_ | refine blk_alloc ?_ _)); exact BK313.out⟩, ⟨bl1_ HB.out GE313.out⟩⟩
                        ·replace c79 := Bool.eq_false_iff.mpr c79
                         subst c79
                         have H1 : (if 0 ≤ (wrap64 ((wrap64 ((wrap64 ((wrap64 (Int.tdiv (rd x8_2 x11_2) a0_0)) + (rd y343 x14_3))) * a0_0)) + (wrap64 ((Int.tmod (rd x8_2 x11_2) a0_0) + (rd y339 x14_3))))) then (if (wrap64 ((wrap64 ((wrap64 ((wrap64 (Int.tdiv (rd x8_2 x11_2) a0_0)) + (rd y343 x14_3))) * a0_0)) + (wrap64 ((Int.tmod (rd x8_2 x11_2) a0_0) + (rd y339 x14_3))))) < (x5_3.length : Int) then (if (rdOf false x5_3 (wrap64 ((wrap64 ((wrap64 ((wrap64 (Int.tdiv (rd x8_2 x11_2) a0_0)) + (rd y343 x14_3))) * a0_0)) + (wrap64 ((Int.tmod (rd x8_2 x11_2) a0_0) + (rd y339 x14_3))))) = true) then (spec_liRegions.l2 kj56 a0_0 a0_1 x5_3 x6_1 x8_3 t328 x10_3 x11_2 (Int.tmod (rd x8_2 x11_2) a0_0) (wrap64 (Int.tdiv (rd x8_2 x11_2) a0_0)) (wrap64 (x14_3 + 1)) (y314.length : Int) x28_1 a0_0 a0_1 l0_2 l0_3) else (if x8_3.length < 17592186044416 then (spec_liRegions.l2 kj56 a0_0 a0_1 (x5_3.set ((wrap64 ((wrap64 ((wrap64 ((wrap64 (Int.tdiv (rd x8_2 x11_2) a0_0)) + (rd y343 x14_3))) * a0_0)) + (wrap64 ((Int.tmod (rd x8_2 x11_2) a0_0) + (rd y339 x14_3))))) : Int).toNat true) x6_1 (x8_3 ++ [wrap64 ((wrap64 ((wrap64 ((wrap64 (Int.tdiv (rd x8_2 x11_2) a0_0)) + (rd y343 x14_3))) * a0_0)) + (wrap64 ((Int.tmod (rd x8_2 x11_2) a0_0) + (rd y339 x14_3))))]) t328 x10_3 x11_2 (Int.tmod (rd x8_2 x11_2) a0_0) (wrap64 (Int.tdiv (rd x8_2 x11_2) a0_0)) (wrap64 (x14_3 + 1)) (y314.length : Int) x28_1 a0_0 a0_1 l0_2 l0_3) else (none))) else (none)) else (none)) = some r := by rw [if_neg (show ¬ (false = true) by decide)] at H; exact H
                         clear H
                         have H := H1
                         clear H1
                         obtain ⟨ji80, hji80⟩ : ∃ j_ : Int, (wrap64 ((wrap64 ((wrap64 ((wrap64 (Int.tdiv (rd x8_2 x11_2) a0_0)) + (rd y343 x14_3))) * a0_0)) + (wrap64 ((Int.tmod (rd x8_2 x11_2) a0_0) + (rd y339 x14_3))))) = j_ := ⟨_, rfl⟩
                         replace H : (if 0 ≤ (ji80) then (if (ji80) < (x5_3.length : Int) then (if (rdOf false x5_3 (ji80) = true) then (spec_liRegions.l2 kj56 a0_0 a0_1 x5_3 x6_1 x8_3 t328 x10_3 x11_2 (Int.tmod (rd x8_2 x11_2) a0_0) (wrap64 (Int.tdiv (rd x8_2 x11_2) a0_0)) (wrap64 (x14_3 + 1)) (y314.length : Int) x28_1 a0_0 a0_1 l0_2 l0_3) else (if x8_3.length < 17592186044416 then (spec_liRegions.l2 kj56 a0_0 a0_1 (x5_3.set ((ji80) : Int).toNat true) x6_1 (x8_3 ++ [ji80]) t328 x10_3 x11_2 (Int.tmod (rd x8_2 x11_2) a0_0) (wrap64 (Int.tdiv (rd x8_2 x11_2) a0_0)) (wrap64 (x14_3 + 1)) (y314.length : Int) x28_1 a0_0 a0_1 l0_2 l0_3) else (none))) else (none)) else (none)) = some r := by first | (rw [hji80] at H; exact H) | (simp only [hji80] at H ⊢; exact H)
                         have hji80w : (IntKind.i64.wrap ((wrap64 ((wrap64 ((wrap64 (Int.tdiv (rd x8_2 x11_2) a0_0)) + (rd y343 x14_3))) * a0_0)) + (wrap64 ((Int.tmod (rd x8_2 x11_2) a0_0) + (rd y339 x14_3))))) = ji80 := (i64_w _).trans hji80
                         by_cases c81 : 0 ≤ (ji80)
                         ·rw [if_pos c81] at H
                          have c81b0 : decide (0 ≤ (ji80)) = true := decide_eq_true c81
                          clear c81
                          by_cases c82 : (ji80) < (x5_3.length : Int)
                          ·rw [if_pos c82] at H
                           have c82b0 : decide ((ji80) < (x5_3.length : Int)) = true := decide_eq_true c82
                           clear c82
                           obtain ⟨bq83, hbq83⟩ : ∃ b_ : Bool, b_ = (rdOf false x5_3 (ji80)) := ⟨_, rfl⟩
                           replace H : (if (bq83 = true) then (spec_liRegions.l2 kj56 a0_0 a0_1 x5_3 x6_1 x8_3 t328 x10_3 x11_2 (Int.tmod (rd x8_2 x11_2) a0_0) (wrap64 (Int.tdiv (rd x8_2 x11_2) a0_0)) (wrap64 (x14_3 + 1)) (y314.length : Int) x28_1 a0_0 a0_1 l0_2 l0_3) else (if x8_3.length < 17592186044416 then (spec_liRegions.l2 kj56 a0_0 a0_1 (x5_3.set ((ji80) : Int).toNat true) x6_1 (x8_3 ++ [ji80]) t328 x10_3 x11_2 (Int.tmod (rd x8_2 x11_2) a0_0) (wrap64 (Int.tdiv (rd x8_2 x11_2) a0_0)) (wrap64 (x14_3 + 1)) (y314.length : Int) x28_1 a0_0 a0_1 l0_2 l0_3) else (none))) = some r := by rw [← hbq83] at H; exact H
                           have Nbq83 := Aside0.mk hbq83
                           clear hbq83
                           by_cases c84 : (bq83 = true)
                           ·subst c84
                            have H1 : (spec_liRegions.l2 kj56 a0_0 a0_1 x5_3 x6_1 x8_3 t328 x10_3 x11_2 (Int.tmod (rd x8_2 x11_2) a0_0) (wrap64 (Int.tdiv (rd x8_2 x11_2) a0_0)) (wrap64 (x14_3 + 1)) (y314.length : Int) x28_1 a0_0 a0_1 l0_2 l0_3) = some r := by rw [if_pos rfl] at H; exact H
                            clear H
                            have H := H1
                            clear H1
                            have H' := Aside0.mk H
                            clear H
                            have p349 : 0 ≤ ((ji80) : Int) := of_decide_eq_true as_
                            have q349 : (ji80) < (x5_3.length : Int) := of_decide_eq_true as_
                            obtain ⟨ad349, e349, hx349_0⟩ := Kd.at_bool (Kd.R_reads' HO_5.out).2.2 (ji80) p349 q349
                            (try rw [← Nbq13.out] at hx349_0)
                            (try rw [← Nbq37.out] at hx349_0)
                            (try rw [← Nbq83.out] at hx349_0)
                            obtain rfl : (⟨go15, 0, none⟩ : Addr) = ad349 := (by injection e349)
                            (first | simp only [add_plain] at hx349_0 | simp only [add_at] at hx349_0 | simp only [Addr.add, Nat.zero_add] at hx349_0 | skip)
                            replace p349 := eq_true p349
                            replace q349 := eq_true q349
                            go_wp2
                            (try simp only [← hl5_3])
                            go_roundg kj56
                            case measure => have := HK1.out; have := HK2.out; have := HK3.out; have := HJ56.out; omega
                            case rel => exact ⟨(x5_3), (x8_3), (x10_3), (wrap64 (x14_3 + 1)), rs_, rs_, H', ⟨by have := HK1.out; have := HK2.out; have := HK3.out; have := HJ56.out; omega⟩, ⟨by (try simp only [hl5_1]); (try simp only [hl5_2]); (try simp only [hl5_3]); (with_reducible repeat (first | apply Kd.R_alloc | apply Kd.R_drewN | apply Kd.R_drew)); exact HO_5.out⟩, ⟨by (try simp only [hl5_1]); (try simp only [hl5_2]); (try simp only [hl5_3]); (with_reducible repeat (first | apply Kd.S_alloc | apply Kd.S_drewN | apply Kd.S_drew)); exact HO_6.out⟩, ⟨by (try simp only [hl5_1]); (try simp only [hl5_2]); (try simp only [hl5_3]); (with_reducible repeat (first | apply Kd.R_alloc | apply Kd.R_drewN | apply Kd.R_drew)); exact HO_8.out⟩, ⟨by (try simp only [hl5_1]); (try simp only [hl5_2]); (try simp only [hl5_3]); (with_reducible repeat (first | apply Kd.R_alloc | apply Kd.R_drewN | apply Kd.R_drew)); exact HO_9.out⟩, ⟨by (try simp only [hl5_1]); (try simp only [hl5_2]); (try simp only [hl5_3]); (with_reducible repeat (first | refine blk_drewN ?_ _ | refine blk_drew ?_ | refine blk_alloc ?_ _)); exact BK313.out⟩, ⟨bl1_ HB.out GE313.out⟩⟩
                           ·replace c84 := Bool.eq_false_iff.mpr c84
                            subst c84
                            have H1 : (if x8_3.length < 17592186044416 then (spec_liRegions.l2 kj56 a0_0 a0_1 (x5_3.set ((ji80) : Int).toNat true) x6_1 (x8_3 ++ [ji80]) t328 x10_3 x11_2 (Int.tmod (rd x8_2 x11_2) a0_0) (wrap64 (Int.tdiv (rd x8_2 x11_2) a0_0)) (wrap64 (x14_3 + 1)) (y314.length : Int) x28_1 a0_0 a0_1 l0_2 l0_3) else (none)) = some r := by rw [if_neg (show ¬ (false = true) by decide)] at H; exact H
                            clear H
                            have H := H1
                            clear H1
                            obtain ⟨y350, hy350⟩ : ∃ y_ : List Bool, y_ = (x5_3.set ((ji80) : Int).toNat true) := ⟨_, rfl⟩
                            replace H : (if x8_3.length < 17592186044416 then (spec_liRegions.l2 kj56 a0_0 a0_1 y350 x6_1 (x8_3 ++ [ji80]) t328 x10_3 x11_2 (Int.tmod (rd x8_2 x11_2) a0_0) (wrap64 (Int.tdiv (rd x8_2 x11_2) a0_0)) (wrap64 (x14_3 + 1)) (y314.length : Int) x28_1 a0_0 a0_1 l0_2 l0_3) else (none)) = some r := by first | (rw [hy350]; with_reducible exact H) | (have H2_ := (Option.bind_some _ _).symm.trans H; rw [hy350]; with_reducible exact H2_) | (have H2_ := (Option.bind_some _ _).symm.trans H; with_reducible exact H2_) | with_reducible exact H | (rw [hy350]; exact H) | exact H
                            have Ny350 := Aside0.mk hy350
                            clear hy350
                            by_cases c86 : x8_3.length < 17592186044416
                            ·rw [if_pos c86] at H
                             have LMc86 := Aside0.mk c86
                             clear c86
                             obtain ⟨y351, hy351⟩ : ∃ y_ : List Int, y_ = (x8_3 ++ [ji80]) := ⟨_, rfl⟩
                             replace H : (spec_liRegions.l2 kj56 a0_0 a0_1 y350 x6_1 y351 t328 x10_3 x11_2 (Int.tmod (rd x8_2 x11_2) a0_0) (wrap64 (Int.tdiv (rd x8_2 x11_2) a0_0)) (wrap64 (x14_3 + 1)) (y314.length : Int) x28_1 a0_0 a0_1 l0_2 l0_3) = some r := by first | (rw [hy351]; with_reducible exact H) | (have H2_ := (Option.bind_some _ _).symm.trans H; rw [hy351]; with_reducible exact H2_) | (have H2_ := (Option.bind_some _ _).symm.trans H; with_reducible exact H2_) | with_reducible exact H | (rw [hy351]; exact H) | exact H
                             have Ny351 := Aside0.mk hy351
                             clear hy351
                             have H' := Aside0.mk H
                             clear H
                             have p349 : 0 ≤ ((ji80) : Int) := of_decide_eq_true as_
                             have q349 : (ji80) < (x5_3.length : Int) := of_decide_eq_true as_
                             obtain ⟨ad349, e349, hx349_0⟩ := Kd.at_bool (Kd.R_reads' HO_5.out).2.2 (ji80) p349 q349
                             (try rw [← Nbq13.out] at hx349_0)
                             (try rw [← Nbq37.out] at hx349_0)
                             (try rw [← Nbq83.out] at hx349_0)
                             obtain rfl : (⟨go15, 0, none⟩ : Addr) = ad349 := (by injection e349)
                             (first | simp only [add_plain] at hx349_0 | simp only [add_at] at hx349_0 | simp only [Addr.add, Nat.zero_add] at hx349_0 | skip)
                             replace p349 := eq_true p349
                             replace q349 := eq_true q349
                             have p85 : 0 ≤ ((ji80) : Int) := of_decide_eq_true as_
                             have q85 : ((ji80) : Int) < ((x5_3.length : Int) : Int) := of_decide_eq_true as_
                             obtain ⟨hx85_0, hf85_0⟩ := Kd.R_celln false HO_5.out ((ji80) : Int) p85 q85
                             replace p85 := eq_true p85
                             replace q85 := eq_true q85
                             have HP87 := Kd.R_putg HO_5.out ((ji80) : Int) true
                             go_wp2_with (first | ((with_reducible refine gate_store (t := 4) (p := 133) rfl ?_); refine store_event (t := 4) (p := 133) (v := ?vo_w88) (w1 := (wc.setCell ⟨go15, ((ji80) : Int).toNat, none⟩ (.bool true))) ?hg ?ho ?hn ?hr ?_; (case ho => rfl); (case hg => rfl); (case hn => rfl); (case hr => first | (go_simp; done) | (go_simp; rfl)); intro w88 hw; have hg : wc.grownBy w88 (some go15) := (by rw [hw]; exact HP87.2); have hp_ : Kd.R Kd.bool 4 w88 w.heap.size (fun _ => True) (.slice (some ⟨go15, 0, none⟩) x5_3.length co9) y350 := (by rw [hw, Ny350.out]; exact HP87.1); clear HP87; have n0_ := Aside0.mk (hp_); have n1_ := Aside0.mk (Kd.S_over' (v := (.slice (some ⟨go15, 0, none⟩) x5_3.length co9)) (by (with_reducible repeat (first | apply Kd.S_alloc | apply Kd.S_drewN | apply Kd.S_drew)); exact HO_6.out) (Kd.R_typed HO_5.out) (by decide) hg); have n2_ := Aside0.mk (Kd.R_over' (v := (.slice (some ⟨go15, 0, none⟩) x5_3.length co9)) (kr_ HO_8.out) (Kd.R_typed HO_5.out) (by decide) hg); have n3_ := Aside0.mk (Kd.R_over' (v := (.slice (some ⟨go15, 0, none⟩) x5_3.length co9)) (kr_ HO_9.out) (Kd.R_typed HO_5.out) (by decide) hg); have n4_ := Aside0.mk (blk_grown (g := gb313) (o := .cells #[.int .i64 a0_0, .int .i64 a0_1, .slice A0_2 l0_2.length c0_2, .slice A0_3 l0_3.length c0_3] 28 (0, 0)) (bk_ BK313.out) hg (Kd.R_ne HO_5.out BK313.out (by decide))); have n5_ := Aside0.mk ((by rw [hw]; exact below_set (HB.out) GB15.out : Below w.heap.size w w88)); clear HO_5; clear HO_6; clear HO_8; clear HO_9; clear BK313; clear HB; have HO_5 := n0_; have HO_6 := n1_; have HO_8 := n2_; have HO_9 := n3_; have BK313 := n4_; have HB := n5_; clear n0_ n1_ n2_ n3_ n4_ n5_; clear hg hw hp_) | ((with_reducible refine gate_builtin (b := .append) (xs := #[.tmp 134, .tmp 140]) rfl ?_); at_builtin; refine Kd.R_append (Kd.int .i64) (w0 := w) w.heap.size rfl (.tmp 134) (.tmp 140) 22 3 (.int .i64 0) 8 rfl Try.underlying22 info3 rfl (by decide) (by omega) u8 x8_3 ji80 [.int .i64 ji80] (fun k_ => some k_ ≠ (v329 : Value).ownBlock) (fun _ => False) rfl rfl ?aP (fun _ hk => hk.elim) ?aF ?aO ?aB ?aS ?aL ?_; (case aP => exact rfl); (case aB => exact (bl1_ HB.out GE313.out)); (case aF => exact (fun k_ hk => Kd.fresh' (Kd.R_lt (kr_ HO_9.out)) k_ hk)); (case aO => exact (kr_ HO_8.out)); (case aS => exact (below_size (bl1_ HB.out GE313.out))); (case aL => have := LMc86.out; omega); intro v352 w89 ho hb hg hat; rw [← Ny351.out] at ho; have n0_ := Aside0.mk (Kd.R_over' (kr_ HO_5.out) (Kd.R_typed (kr_ HO_8.out)) (by decide) hg); have n1_ := Aside0.mk (Kd.S_after (ok := (fun k_ => some k_ ≠ (v329 : Value).ownBlock)) (by (with_reducible repeat (first | apply Kd.S_alloc | apply Kd.S_drewN | apply Kd.S_drew)); exact Kd.S_mono HO_6.out (fun _ hk => by and_intros <;> first | exact hk | exact hk.1 | exact hk.2 | exact hk.1.1 | exact hk.1.2 | exact hk.2.1 | exact hk.2.2 | trivial)) hg hat); have n2_ := Aside0.mk (Kd.R_after (ok := (fun _ => True)) (by (with_reducible repeat (first | apply Kd.R_alloc | apply Kd.R_drewN | apply Kd.R_drew)); exact Kd.R_mono HO_9.out (fun _ hk => ⟨trivial, hk⟩)) hg hat); have n3_ := Aside0.mk (blk_grown (g := gb313) (o := .cells #[.int .i64 a0_0, .int .i64 a0_1, .slice A0_2 l0_2.length c0_2, .slice A0_3 l0_3.length c0_3] 28 (0, 0)) (bk_ BK313.out) hg (Kd.R_ne HO_8.out BK313.out (by decide))); have n4_ := Aside0.mk (hb); have n5_ := Aside0.mk (ho); clear HO_5; clear HO_6; clear HO_9; clear BK313; clear HB; clear HO_8; have HO_5 := n0_; have HO_6 := n1_; have HO_9 := n2_; have BK313 := n3_; have HB := n4_; have HO353 := n5_; clear n0_ n1_ n2_ n3_ n4_ n5_; clear ho hb hg hat))
                             (try simp only [← hl5_3])
                             go_roundg kj56
                             case measure => have := HK1.out; have := HK2.out; have := HK3.out; have := HJ56.out; omega
                             case rel => exact ⟨(y350), (y351), (x10_3), (wrap64 (x14_3 + 1)), rs_, rs_, H', ⟨by have := HK1.out; have := HK2.out; have := HK3.out; have := HJ56.out; omega⟩, ⟨by (try simp only [hl5_1]); (try simp only [hl5_2]); (try simp only [hl5_3]); (with_reducible repeat (first | apply Kd.R_alloc | apply Kd.R_drewN | apply Kd.R_drew)); exact HO_5.out⟩, ⟨by (try simp only [hl5_1]); (try simp only [hl5_2]); (try simp only [hl5_3]); (with_reducible repeat (first | apply Kd.S_alloc | apply Kd.S_drewN | apply Kd.S_drew)); exact Kd.S_mono HO_6.out (fun _ hk => by and_intros <;> first | exact hk | exact hk.1 | exact hk.2 | exact hk.1.1 | exact hk.1.2 | exact hk.2.1 | exact hk.2.2 | trivial)⟩, ⟨by (try simp only [hl5_1]); (try simp only [hl5_2]); (try simp only [hl5_3]); (with_reducible repeat (first | apply Kd.R_alloc | apply Kd.R_drewN | apply Kd.R_drew)); exact HO353.out⟩, ⟨by (try simp only [hl5_1]); (try simp only [hl5_2]); (try simp only [hl5_3]); (with_reducible repeat (first | apply Kd.R_alloc | apply Kd.R_drewN | apply Kd.R_drew)); exact Kd.R_mono HO_9.out (fun _ hk => by and_intros <;> first | exact hk | exact hk.1 | exact hk.2 | exact hk.1.1 | exact hk.1.2 | exact hk.2.1 | exact hk.2.2 | trivial)⟩, ⟨by (try simp only [hl5_1]); (try simp only [hl5_2]); (try simp only [hl5_3]); (with_reducible repeat (first | refine blk_drewN ?_ _ | refine blk_drew ?_ | refine blk_alloc ?_ _)); exact BK313.out⟩, ⟨bl1_ HB.out GE313.out⟩⟩
                            ·rw [if_neg c86] at H
                             exact absurd H (by simp)
                          ·rw [if_neg c82] at H
                           exact absurd H (by simp)
                         ·rw [if_neg c81] at H
                          exact absurd H (by simp)
                    ·rw [if_neg c36] at H
                     exact absurd H (by simp)
                   ·rw [if_neg c35] at H
                    exact absurd H (by simp)
                  ·rw [if_neg c34] at H
                   exact absurd H (by simp)
                 ·rw [if_neg c33] at H
                  exact absurd H (by simp)
                ·rw [if_neg c28] at H
                 have c28b0 : decide (x14_3 < 4) = false := decide_eq_false c28
                 clear c28
                 have H' := Aside0.mk H
                 clear H
                 go_wp2
                 (try simp only [← hl5_2, ← hl5_3])
                 go_roundg k3
                 case measure => have := HK1.out; have := HK2.out; have := HK3.out; omega
                 case rel => exact ⟨(x5_3), (x8_3), (t328), (x10_3), (wrap64 (x11_2 + 1)), rs_, rs_, H', ⟨by have := HK1.out; have := HK2.out; have := HK3.out; omega⟩, ⟨by (try simp only [hl5_1]); (try simp only [hl5_2]); (try simp only [hl5_3]); (with_reducible repeat (first | apply Kd.R_alloc | apply Kd.R_drewN | apply Kd.R_drew)); exact HO_5.out⟩, ⟨by (try simp only [hl5_1]); (try simp only [hl5_2]); (try simp only [hl5_3]); (with_reducible repeat (first | apply Kd.S_alloc | apply Kd.S_drewN | apply Kd.S_drew)); exact HO_6.out⟩, ⟨by (try simp only [hl5_1]); (try simp only [hl5_2]); (try simp only [hl5_3]); (with_reducible repeat (first | apply Kd.R_alloc | apply Kd.R_drewN | apply Kd.R_drew)); exact HO_8.out⟩, ⟨by (try simp only [hl5_1]); (try simp only [hl5_2]); (try simp only [hl5_3]); (with_reducible repeat (first | apply Kd.R_alloc | apply Kd.R_drewN | apply Kd.R_drew)); exact HO_9.out⟩, ⟨by (try simp only [hl5_1]); (try simp only [hl5_2]); (try simp only [hl5_3]); (with_reducible repeat (first | refine blk_drewN ?_ _ | refine blk_drew ?_ | refine blk_alloc ?_ _)); exact BK313.out⟩, ⟨bl1_ HB.out GE313.out⟩⟩
            ·rw [if_neg c21] at H
             exact absurd H (by simp)
           ·rw [if_neg c20] at H
            have c20b0 : decide (x11_2 < (x8_2.length : Int)) = false := decide_eq_false c20
            clear c20
            by_cases c90 : x10_2 = true
            ·subst c90
             have H1 : (spec_liRegions.l0 k2 a0_0 a0_1 x5_2 x6_1 (y314.length : Int) (wrap64 (x28_1 + 1)) a0_0 a0_1 l0_2 l0_3) = some r := by rw [if_pos rfl] at H; exact H
             clear H
             have H := H1
             clear H1
             have H' := Aside0.mk H
             clear H
             obtain ⟨Ao91, co91, eo91⟩ := Kd.R_slice HO_8.out
             subst eo91
             go_wp2
             (try simp only [← hl5_1, ← hl5_2])
             go_roundg k2
             case measure => have := HK1.out; have := HK2.out; omega
             case rel => exact ⟨(x5_2), (x6_1), (wrap64 (x28_1 + 1)), rs_, H', ⟨by have := HK1.out; have := HK2.out; omega⟩, ⟨by (try simp only [hl5_1]); (try simp only [hl5_2]); (with_reducible repeat (first | apply Kd.R_alloc | apply Kd.R_drewN | apply Kd.R_drew)); exact HO_5.out⟩, ⟨by (try simp only [hl5_1]); (try simp only [hl5_2]); (with_reducible repeat (first | apply Kd.S_alloc | apply Kd.S_drewN | apply Kd.S_drew)); exact Kd.S_mono HO_6.out (fun _ hk => trivial)⟩, ⟨by (try simp only [hl5_1]); (try simp only [hl5_2]); (with_reducible repeat (first | refine blk_drewN ?_ _ | refine blk_drew ?_ | refine blk_alloc ?_ _)); exact BK313.out⟩, ⟨bl1_ HB.out GE313.out⟩⟩
            ·replace c90 := Bool.eq_false_iff.mpr c90
             subst c90
             have H1 : (if x6_1.length < 5864062014805 then (spec_liRegions.l0 k2 a0_0 a0_1 x5_2 (x6_1 ++ [x9_2]) (y314.length : Int) (wrap64 (x28_1 + 1)) a0_0 a0_1 l0_2 l0_3) else (none)) = some r := by rw [if_neg (show ¬ (false = true) by decide)] at H; exact H
             clear H
             have H := H1
             clear H1
             by_cases c92 : x6_1.length < 5864062014805
             ·rw [if_pos c92] at H
              have LMc92 := Aside0.mk c92
              clear c92
              obtain ⟨y322, hy322⟩ : ∃ y_ : List (List Int), y_ = (x6_1 ++ [x9_2]) := ⟨_, rfl⟩
              replace H : (spec_liRegions.l0 k2 a0_0 a0_1 x5_2 y322 (y314.length : Int) (wrap64 (x28_1 + 1)) a0_0 a0_1 l0_2 l0_3) = some r := by first | (rw [hy322]; with_reducible exact H) | (have H2_ := (Option.bind_some _ _).symm.trans H; rw [hy322]; with_reducible exact H2_) | (have H2_ := (Option.bind_some _ _).symm.trans H; with_reducible exact H2_) | with_reducible exact H | (rw [hy322]; exact H) | exact H
              have Ny322 := Aside0.mk hy322
              clear hy322
              have H' := Aside0.mk H
              clear H
              obtain ⟨Ao93, co93, eo93⟩ := Kd.R_slice HO_8.out
              subst eo93
              obtain ⟨Ao95, co95, eo95⟩ := Kd.R_slice HO_9.out
              subst eo95
              go_wp2_with (first | ((with_reducible refine gate_builtin (b := .append) (xs := #[.tmp 144, .tmp 146]) rfl ?_); at_builtin; refine Kd.S_append (Kd.slice 3 (Kd.int .i64)) (w0 := w) w.heap.size rfl (.tmp 144) (.tmp 146) 32 22 (.slice none 0 0) 24 rfl Try.underlying32 info22 rfl (by decide) (by omega) u6 x6_1 x9_2 [.slice Ao95 x9_2.length co95] (fun k_ => some k_ ≠ (.slice Ao93 x8_2.length co93 : Value).ownBlock) (fun k_ => some k_ = (.slice Ao95 x9_2.length co95 : Value).ownBlock) rfl rfl ?aP (fun k_ hk_ => ((Kd.R_mono (ok' := fun k_ => ((fun k_ => some k_ ≠ (.slice Ao93 x8_2.length co93 : Value).ownBlock)) k_ ∧ some k_ ≠ (u6 : Value).ownBlock) (Kd.R_apart' (HO_9.out) (Kd.S_typed HO_6.out) (by decide)) (fun k_ hk => ⟨hk.1, hk.2⟩))).1 k_ hk_.symm) ?aF ?aO ?aB ?aS ?aL ?_; (case aP => exact Kd.M_row (Kd.R_mono (Kd.R_tight rfl (Kd.R_mono (ok' := fun k_ => ((fun k_ => some k_ ≠ (.slice Ao93 x8_2.length co93 : Value).ownBlock)) k_ ∧ some k_ ≠ (u6 : Value).ownBlock) (Kd.R_apart' (HO_9.out) (Kd.S_typed HO_6.out) (by decide)) (fun k_ hk => ⟨hk.1, hk.2⟩))) (fun _ h_ => h_))); (case aB => exact (bl1_ HB.out GE313.out)); (case aF => exact (fun k_ hk => Kd.fresh' (Kd.R_lt (kr_ HO_8.out)) k_ hk)); (case aO => exact (by (with_reducible repeat (first | apply Kd.S_alloc | apply Kd.S_drewN | apply Kd.S_drew)); exact Kd.S_mono HO_6.out (fun k_ hk => ⟨hk.1, fun e_ => hk.2 e_⟩))); (case aS => exact (below_size (bl1_ HB.out GE313.out))); (case aL => have := LMc92.out; omega); intro v323 w94 ho hb hg hat; rw [← Ny322.out] at ho; have n0_ := Aside0.mk (Kd.R_over' (kr_ HO_5.out) (Kd.S_typed (by (with_reducible repeat (first | apply Kd.S_alloc | apply Kd.S_drewN | apply Kd.S_drew)); exact HO_6.out)) (by decide) hg); have n1_ := Aside0.mk (Kd.R_over' (kr_ HO_8.out) (Kd.S_typed (by (with_reducible repeat (first | apply Kd.S_alloc | apply Kd.S_drewN | apply Kd.S_drew)); exact HO_6.out)) (by decide) hg); have n2_ := Aside0.mk (blk_grown (g := gb313) (o := .cells #[.int .i64 a0_0, .int .i64 a0_1, .slice A0_2 l0_2.length c0_2, .slice A0_3 l0_3.length c0_3] 28 (0, 0)) (bk_ BK313.out) hg (Kd.S_ne HO_6.out BK313.out (by decide))); have n3_ := Aside0.mk (hb); have n4_ := Aside0.mk (ho); clear HO_5; clear HO_8; clear BK313; clear HB; clear HO_6; clear HO_9; have HO_5 := n0_; have HO_8 := n1_; have BK313 := n2_; have HB := n3_; have HO324 := n4_; clear n0_ n1_ n2_ n3_ n4_; clear ho hb hg hat))
              (try simp only [← hl5_1, ← hl5_2])
              go_roundg k2
              case measure => have := HK1.out; have := HK2.out; omega
              case rel => exact ⟨(x5_2), (y322), (wrap64 (x28_1 + 1)), rs_, H', ⟨by have := HK1.out; have := HK2.out; omega⟩, ⟨by (try simp only [hl5_1]); (try simp only [hl5_2]); (with_reducible repeat (first | apply Kd.R_alloc | apply Kd.R_drewN | apply Kd.R_drew)); exact HO_5.out⟩, ⟨by (try simp only [hl5_1]); (try simp only [hl5_2]); (with_reducible repeat (first | apply Kd.S_alloc | apply Kd.S_drewN | apply Kd.S_drew)); exact Kd.S_mono HO324.out (fun _ hk => trivial)⟩, ⟨by (try simp only [hl5_1]); (try simp only [hl5_2]); (with_reducible repeat (first | refine blk_drewN ?_ _ | refine blk_drew ?_ | refine blk_alloc ?_ _)); exact BK313.out⟩, ⟨bl1_ HB.out GE313.out⟩⟩
             ·rw [if_neg c92] at H
              exact absurd H (by simp)
       ·rw [if_neg c12] at H
        exact absurd H (by simp)
      ·rw [if_neg c11] at H
       exact absurd H (by simp)
     ·rw [if_neg c10] at H
      have c10b0 : decide (x28_1 < (y314.length : Int)) = false := decide_eq_false c10; (try rw [hl5_1] at c10b0)
      clear c10
      obtain rfl := Option.some.inj H
      go_wp2
      go_ret
      exact ⟨_, by first | rfl | (simp [errW_none, errW_some] <;> rfl) | (simp only [← hji2]; first | rfl | (simp [errW_none, errW_some] <;> rfl)) | (simp [*, errW_none, errW_some] <;> rfl), by (with_reducible repeat (first | apply Kd.S_alloc | apply Kd.S_drewN | apply Kd.S_drew)); exact HO_6.out, bl1_ HB.out GE313.out⟩
  ·rw [if_neg c4] at H
   exact absurd H (by simp)
 ·rw [if_neg c3] at H
  exact absurd H (by simp)


def spec_CountHoles.f (k : Nat) (a0_0 : Int) (a0_1 : Int) (l0_2 : List Int) (l0_3 : List Int) : Option (Int × Bool) := (spec_fiGood.f k a0_0 a0_1 l0_2 l0_3).bind fun t518 => (if t518 = true then ((spec_liRegions.f k a0_0 a0_1 l0_2 l0_3).bind fun t519 => (some ((t519.length : Int), true))) else (some (0, false)))
theorem spec_CountHoles.mono : ∀ a0 a1 a2 a3 k, LeO (spec_CountHoles.f k a0 a1 a2 a3) (spec_CountHoles.f (k + 1) a0 a1 a2 a3) := by
 intro a0 a1 a2 a3 k
 unfold spec_CountHoles.f
 repeat' first
   | (with_reducible exact spec_fiGood.mono _ _ _ _ _)
   | (with_reducible exact spec_liRegions.mono _ _ _ _ _)
   | (with_reducible exact LeO.refl _)
   | (with_reducible exact LeO.none _)
   | (with_reducible refine LeO.ite ?_ ?_)
   | (with_reducible refine LeO.bind ?_ (fun _ => ?_))
   | exact spec_fiGood.mono _ _ _ _ _
   | exact spec_liRegions.mono _ _ _ _ _
   | exact LeO.none _
   | refine LeO.ite ?_ ?_
   | refine LeO.bind ?_ (fun _ => ?_)
set_option maxHeartbeats 8000000 in
set_option maxRecDepth 100000 in
theorem spec_CountHoles.calls (k : Nat) (a0_0 : Int) (a0_1 : Int) (A0_2 : Option Addr) (c0_2 : Nat) (l0_2 : List Int) (A0_3 : Option Addr) (c0_3 : Nat) (l0_3 : List Int) (r1 : Int) (r2 : Bool) (w : World) (hr0_2 : Kd.C (Kd.int .i64) w A0_2 l0_2.length l0_2) (hc0_2 : l0_2.length ≤ c0_2) (hr0_3 : Kd.C (Kd.int .i64) w A0_3 l0_3.length l0_3) (hc0_3 : l0_3.length ≤ c0_3) (h : spec_CountHoles.f k a0_0 a0_1 l0_2 l0_3 = some (r1, r2)) :
  Calls Try.prog 26 #[.agg #[.int .i64 a0_0, .int .i64 a0_1, .slice A0_2 l0_2.length c0_2, .slice A0_3 l0_3.length c0_3]] w fun e w' => e = .returned (.tuple #[.int .i64 r1, .bool r2]) ∧ Below w.heap.size w w' := by
 have hu28 := Try.underlying28
 have HR0_2 := Aside0.mk hr0_2
 have HC0_2 := Aside0.mk hc0_2
 clear hr0_2 hc0_2
 have HR0_3 := Aside0.mk hr0_3
 have HC0_3 := Aside0.mk hc0_3
 clear hr0_3 hc0_3
 have HB := Aside0.mk (Below.refl w.heap.size w)
 have H : ((spec_fiGood.f k a0_0 a0_1 l0_2 l0_3).bind fun t518 => (if t518 = true then ((spec_liRegions.f k a0_0 a0_1 l0_2 l0_3).bind fun t519 => (some ((t519.length : Int), true))) else (some (0, false)))) = some (r1, r2) := h
 clear h
 replace H := Option.bind_eq_some_iff.mp H
 obtain ⟨t518, A20, H⟩ := H
 replace H : (if t518 = true then ((spec_liRegions.f k a0_0 a0_1 l0_2 l0_3).bind fun t519 => (some ((t519.length : Int), true))) else (some (0, false))) = some (r1, r2) := H
 have A2 := Aside0.mk A20
 clear A20
 by_cases c3 : t518 = true
 ·subst c3
  have H1 : ((spec_liRegions.f k a0_0 a0_1 l0_2 l0_3).bind fun t519 => (some ((t519.length : Int), true))) = some (r1, r2) := by rw [if_pos rfl] at H; exact H
  clear H
  have H := H1
  clear H1
  replace H := Option.bind_eq_some_iff.mp H
  obtain ⟨t519, A40, H⟩ := H
  replace H : (some ((t519.length : Int), true)) = some (r1, r2) := H
  have A4 := Aside0.mk A40
  clear A40
  simp only [Option.some.injEq, Prod.mk.injEq] at H
  obtain ⟨rfl, rfl⟩ := H
  go_enter Try.func26, Try.ntmps26
  go_wp2_with (first | ((with_reducible refine gate_dst (N := 1) rfl ?_); refine boxE_ (N := 1) (cs := #[.int .i64 a0_0, .int .i64 a0_1, .slice A0_2 l0_2.length c0_2, .slice A0_3 l0_3.length c0_3]) (t := 28) ?_; intro gb517 hg w5 hbox hb; have n0_ := Aside0.mk (below_step (bl0_ HB.out) hb); have n1_ := Aside0.mk (hbox); have n2_ := Aside0.mk ((bs0_ hg HB.out : w.heap.size ≤ gb517)); have n3_ := Aside0.mk ((bs0_ hg HB.out : w.heap.size ≤ gb517)); clear HB; have HB := n0_; have BK517 := n1_; have GW517 := n2_; have GE517 := n3_; clear n0_ n1_ n2_ n3_; clear hb hbox hg; have hcz6_0 : w5.cell? ⟨gb517, 0, none⟩ = some (.int .i64 a0_0) := (blk_cell BK517.out 0).trans rfl; have hcz6_1 : w5.cell? ⟨gb517, 1, none⟩ = some (.int .i64 a0_1) := (blk_cell BK517.out 1).trans rfl; have hcz6_2 : w5.cell? ⟨gb517, 2, none⟩ = some (.slice A0_2 l0_2.length c0_2) := (blk_cell BK517.out 2).trans rfl; have hcz6_3 : w5.cell? ⟨gb517, 3, none⟩ = some (.slice A0_3 l0_3.length c0_3) := (blk_cell BK517.out 3).trans rfl; have hfz6_0 := blk_frozen BK517.out 0; have hfz6_1 := blk_frozen BK517.out 1; have hfz6_2 := blk_frozen BK517.out 2; have hfz6_3 := blk_frozen BK517.out 3) | ((with_reducible refine gate_callee (f := 34) rfl ?_); refine goesL_ (some 5) rfl rfl Try.func34 (by kernel_rfl) rfl #[.agg #[.int .i64 a0_0, .int .i64 a0_1, .slice A0_2 l0_2.length c0_2, .slice A0_3 l0_3.length c0_3]] rfl ob_ ?_; (with_reducible refine (spec_fiGood.calls k a0_0 a0_1 _ _ l0_2 _ _ l0_3 true _ ?side1 ?side2 ?side3 ?side4 A2.out).mono ?_); (case side1 => exact kc_ (Kd.C_below HR0_2.out HB.out)); (case side2 => exact HC0_2.out); (case side3 => exact kc_ (Kd.C_below HR0_3.out HB.out)); (case side4 => exact HC0_3.out); rintro e w7 ⟨rfl, hb⟩; refine ⟨_, rfl, ?_⟩; have n0_ := Aside0.mk (bb_ BK517.out hb); have n1_ := Aside0.mk (below_step (bl1_ HB.out GE517.out) hb); clear BK517; clear HB; have BK517 := n0_; have HB := n1_; clear n0_ n1_; (try clear hb); (try clear hb2); (try clear hk); (try clear hi); have hcz8_0 : w7.cell? ⟨gb517, 0, none⟩ = some (.int .i64 a0_0) := (blk_cell BK517.out 0).trans rfl; have hcz8_1 : w7.cell? ⟨gb517, 1, none⟩ = some (.int .i64 a0_1) := (blk_cell BK517.out 1).trans rfl; have hcz8_2 : w7.cell? ⟨gb517, 2, none⟩ = some (.slice A0_2 l0_2.length c0_2) := (blk_cell BK517.out 2).trans rfl; have hcz8_3 : w7.cell? ⟨gb517, 3, none⟩ = some (.slice A0_3 l0_3.length c0_3) := (blk_cell BK517.out 3).trans rfl; have hfz8_0 := blk_frozen BK517.out 0; have hfz8_1 := blk_frozen BK517.out 1; have hfz8_2 := blk_frozen BK517.out 2; have hfz8_3 := blk_frozen BK517.out 3) | ((with_reducible refine gate_callee (f := 46) rfl ?_); refine goesL_ (some 8) rfl rfl Try.func46 (by kernel_rfl) rfl #[.agg #[.int .i64 a0_0, .int .i64 a0_1, .slice A0_2 l0_2.length c0_2, .slice A0_3 l0_3.length c0_3]] rfl ob_ ?_; (with_reducible refine (spec_liRegions.calls k a0_0 a0_1 _ _ l0_2 _ _ l0_3 t519 _ ?side1 ?side2 ?side3 ?side4 A4.out).mono ?_); (case side1 => exact kc_ (Kd.C_below HR0_2.out HB.out)); (case side2 => exact HC0_2.out); (case side3 => exact kc_ (Kd.C_below HR0_3.out HB.out)); (case side4 => exact HC0_3.out); rintro e w9 ⟨v520, rfl, ho0, hb⟩; refine ⟨_, rfl, ?_⟩; have n0_ := Aside0.mk (Kd.S_lower ho0 (below_size (bl1_ HB.out GE517.out))); have n1_ := Aside0.mk (bb_ BK517.out hb); have n2_ := Aside0.mk (below_step (bl1_ HB.out GE517.out) hb); clear BK517; clear HB; have HO521 := n0_; have BK517 := n1_; have HB := n2_; clear n0_ n1_ n2_; (try clear hb); (try clear hb2); (try clear hk); (try clear hi); (try clear ho0); obtain ⟨Ao10, co10, eo10⟩ := Kd.S_slice HO521.out; subst eo10))
  go_ret2
  exact ⟨er_, bl1_ HB.out GE517.out⟩
 ·replace c3 := Bool.eq_false_iff.mpr c3
  subst c3
  have H1 : (some (0, false)) = some (r1, r2) := by rw [if_neg (show ¬ (false = true) by decide)] at H; exact H
  clear H
  have H := H1
  clear H1
  simp only [Option.some.injEq, Prod.mk.injEq] at H
  obtain ⟨rfl, rfl⟩ := H
  go_enter Try.func26, Try.ntmps26
  go_wp2_with (first | ((with_reducible refine gate_dst (N := 1) rfl ?_); refine boxE_ (N := 1) (cs := #[.int .i64 a0_0, .int .i64 a0_1, .slice A0_2 l0_2.length c0_2, .slice A0_3 l0_3.length c0_3]) (t := 28) ?_; intro gb517 hg w11 hbox hb; have n0_ := Aside0.mk (below_step (bl0_ HB.out) hb); have n1_ := Aside0.mk (hbox); have n2_ := Aside0.mk ((bs0_ hg HB.out : w.heap.size ≤ gb517)); have n3_ := Aside0.mk ((bs0_ hg HB.out : w.heap.size ≤ gb517)); clear HB; have HB := n0_; have BK517 := n1_; have GW517 := n2_; have GE517 := n3_; clear n0_ n1_ n2_ n3_; clear hb hbox hg; have hcz12_0 : w11.cell? ⟨gb517, 0, none⟩ = some (.int .i64 a0_0) := (blk_cell BK517.out 0).trans rfl; have hcz12_1 : w11.cell? ⟨gb517, 1, none⟩ = some (.int .i64 a0_1) := (blk_cell BK517.out 1).trans rfl; have hcz12_2 : w11.cell? ⟨gb517, 2, none⟩ = some (.slice A0_2 l0_2.length c0_2) := (blk_cell BK517.out 2).trans rfl; have hcz12_3 : w11.cell? ⟨gb517, 3, none⟩ = some (.slice A0_3 l0_3.length c0_3) := (blk_cell BK517.out 3).trans rfl; have hfz12_0 := blk_frozen BK517.out 0; have hfz12_1 := blk_frozen BK517.out 1; have hfz12_2 := blk_frozen BK517.out 2; have hfz12_3 := blk_frozen BK517.out 3) | ((with_reducible refine gate_callee (f := 34) rfl ?_); refine goesL_ (some 5) rfl rfl Try.func34 (by kernel_rfl) rfl #[.agg #[.int .i64 a0_0, .int .i64 a0_1, .slice A0_2 l0_2.length c0_2, .slice A0_3 l0_3.length c0_3]] rfl ob_ ?_; (with_reducible refine (spec_fiGood.calls k a0_0 a0_1 _ _ l0_2 _ _ l0_3 false _ ?side1 ?side2 ?side3 ?side4 A2.out).mono ?_); (case side1 => exact kc_ (Kd.C_below HR0_2.out HB.out)); (case side2 => exact HC0_2.out); (case side3 => exact kc_ (Kd.C_below HR0_3.out HB.out)); (case side4 => exact HC0_3.out); rintro e w13 ⟨rfl, hb⟩; refine ⟨_, rfl, ?_⟩; have n0_ := Aside0.mk (bb_ BK517.out hb); have n1_ := Aside0.mk (below_step (bl1_ HB.out GE517.out) hb); clear BK517; clear HB; have BK517 := n0_; have HB := n1_; clear n0_ n1_; (try clear hb); (try clear hb2); (try clear hk); (try clear hi)))
  go_ret2
  exact ⟨er_, bl1_ HB.out GE517.out⟩

end Go.Proofs.Yteaglkpplgbpaaa.P
