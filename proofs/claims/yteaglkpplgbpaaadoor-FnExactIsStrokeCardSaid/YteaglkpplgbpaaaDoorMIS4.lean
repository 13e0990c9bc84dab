/- For every input the law FnExactIsStroke answers true: the program's IsStroke tells what the reference's IsStroke tells; no condition. (part 4 of the proof; the words of the kit's print tool and the texts of this seat, merged by a program) -/
import Derived.Test.YteaglkpplgbpaaaDoorMIS3
namespace Go.Proofs.YteaglkpplgbpaaaDoor.P
open Go.RowKit Go.Proofs.YteaglkpplgbpaaaDoorW.PrintWords Go.Proofs.YteaglkpplgbpaaaDoorW.PrintLast Go.Proofs.YteaglkpplgbpaaaDoorW.PrintMore
attribute [local go_sem] max2_int min2_int max_two min_two max_three min_three max_four min_four   -- for this text's walks alone
set_option linter.unusedVariables false
set_option linter.unusedSimpArgs false

def spec_liEdge.f (k : Nat) (a0_0 : Int) (a0_1 : Int) (l0_2 : List Int) (l0_3 : List Int) (a1_0 : Int) (a1_1 : Int) (a2 : Int) : Option (Int × Int × List Int × List Int) := if a2 = 0 then ((spec_fiPut.f k a0_0 a0_1 ([] : List Int) ([] : List Int) true a1_0 (wrap64 (a1_1 - 1))).bind fun bt259 => (some (bt259.1, bt259.2.1, bt259.2.2.1, bt259.2.2.2))) else (if a2 = 1 then ((spec_fiPut.f k a0_0 a0_1 ([] : List Int) ([] : List Int) false a1_0 a1_1).bind fun bt267 => (some (bt267.1, bt267.2.1, bt267.2.2.1, bt267.2.2.2))) else (if a2 = 2 then ((spec_fiPut.f k a0_0 a0_1 ([] : List Int) ([] : List Int) true a1_0 a1_1).bind fun bt275 => (some (bt275.1, bt275.2.1, bt275.2.2.1, bt275.2.2.2))) else ((spec_fiPut.f k a0_0 a0_1 ([] : List Int) ([] : List Int) false (wrap64 (a1_0 - 1)) a1_1).bind fun bt283 => (some (bt283.1, bt283.2.1, bt283.2.2.1, bt283.2.2.2)))))
theorem spec_liEdge.mono : ∀ a0 a1 a2 a3 a4 a5 a6 k, LeO (spec_liEdge.f k a0 a1 a2 a3 a4 a5 a6) (spec_liEdge.f (k + 1) a0 a1 a2 a3 a4 a5 a6) := by
 intro a0 a1 a2 a3 a4 a5 a6 k
 unfold spec_liEdge.f
 repeat' first
   | (with_reducible exact spec_fiPut.mono _ _ _ _ _ _ _ _)
   | (with_reducible exact LeO.refl _)
   | (with_reducible exact LeO.none _)
   | (with_reducible refine LeO.ite ?_ ?_)
   | (with_reducible refine LeO.bind ?_ (fun _ => ?_))
   | exact spec_fiPut.mono _ _ _ _ _ _ _ _
   | exact LeO.none _
   | refine LeO.ite ?_ ?_
   | refine LeO.bind ?_ (fun _ => ?_)
set_option maxHeartbeats 8000000 in
set_option maxRecDepth 100000 in
theorem spec_liEdge.calls (k : Nat) (a0_0 : Int) (a0_1 : Int) (A0_2 : Option Addr) (c0_2 : Nat) (l0_2 : List Int) (A0_3 : Option Addr) (c0_3 : Nat) (l0_3 : List Int) (a1_0 : Int) (a1_1 : Int) (a2 : Int) (r1 : Int) (r2 : Int) (r3 : List Int) (r4 : List Int) (w : World) (hr0_2 : Kd.C (Kd.int .i64) w A0_2 l0_2.length l0_2) (hc0_2 : l0_2.length ≤ c0_2) (hr0_3 : Kd.C (Kd.int .i64) w A0_3 l0_3.length l0_3) (hc0_3 : l0_3.length ≤ c0_3) (h : spec_liEdge.f k a0_0 a0_1 l0_2 l0_3 a1_0 a1_1 a2 = some (r1, r2, r3, r4)) :
  Calls Tryd.prog 30 #[.agg #[.int .i64 a0_0, .int .i64 a0_1, .slice A0_2 l0_2.length c0_2, .slice A0_3 l0_3.length c0_3], .agg #[.int .i64 a1_0, .int .i64 a1_1], .int .i64 a2] w fun e w' => ∃ v2_ v3_ : Value, e = .returned (.agg #[.int .i64 r1, .int .i64 r2, v2_, v3_]) ∧ Kd.R (Kd.int .i64) 3 w' w.heap.size (fun k_ => some k_ ≠ (v3_ : Value).ownBlock) v2_ r3 ∧ Kd.R (Kd.int .i64) 3 w' w.heap.size (fun k_ => some k_ ≠ (v2_ : Value).ownBlock) v3_ r4 ∧ Below w.heap.size w w' := by
 have hu30 := Tryd.underlying30
 have hu32 := Tryd.underlying32
 have HR0_2 := Aside0.mk hr0_2
 have HC0_2 := Aside0.mk hc0_2
 clear hr0_2 hc0_2
 have HR0_3 := Aside0.mk hr0_3
 have HC0_3 := Aside0.mk hc0_3
 clear hr0_3 hc0_3
 have HB := Aside0.mk (Below.refl w.heap.size w)
 have H : (if a2 = 0 then ((spec_fiPut.f k a0_0 a0_1 ([] : List Int) ([] : List Int) true a1_0 (wrap64 (a1_1 - 1))).bind fun bt259 => (some (bt259.1, bt259.2.1, bt259.2.2.1, bt259.2.2.2))) else (if a2 = 1 then ((spec_fiPut.f k a0_0 a0_1 ([] : List Int) ([] : List Int) false a1_0 a1_1).bind fun bt267 => (some (bt267.1, bt267.2.1, bt267.2.2.1, bt267.2.2.2))) else (if a2 = 2 then ((spec_fiPut.f k a0_0 a0_1 ([] : List Int) ([] : List Int) true a1_0 a1_1).bind fun bt275 => (some (bt275.1, bt275.2.1, bt275.2.2.1, bt275.2.2.2))) else ((spec_fiPut.f k a0_0 a0_1 ([] : List Int) ([] : List Int) false (wrap64 (a1_0 - 1)) a1_1).bind fun bt283 => (some (bt283.1, bt283.2.1, bt283.2.2.1, bt283.2.2.2)))))) = some (r1, r2, r3, r4) := h
 clear h
 by_cases c4 : a2 = 0
 ·rw [if_pos c4] at H
  have c4b0 : (a2 == 0) = true := beq_iff_eq.mpr c4
  have c4b1 : (a2 != 0) = false := bne_eq_false_iff_eq.mpr c4
  clear c4
  replace H := Option.bind_eq_some_iff.mp H
  obtain ⟨⟨t259, t260, t261, t264⟩, A50, H⟩ := H
  replace H : (some (t259, t260, t261, t264)) = some (r1, r2, r3, r4) := H
  have A5 := Aside0.mk A50
  clear A50
  simp only [Option.some.injEq, Prod.mk.injEq] at H
  obtain ⟨rfl, rfl, rfl, rfl⟩ := H
  go_enter Tryd.func30, Tryd.ntmps30
  go_wp2_with (first | ((with_reducible refine gate_dst (N := 3) rfl ?_); refine boxE_ (N := 3) (cs := #[.int .i64 a0_0, .int .i64 a0_1, .slice A0_2 l0_2.length c0_2, .slice A0_3 l0_3.length c0_3]) (t := 30) ?_; intro gb255 hg w6 hbox hb; have n0_ := Aside0.mk (below_step (bl0_ HB.out) hb); have n1_ := Aside0.mk (hbox); have n2_ := Aside0.mk ((bs0_ hg HB.out : w.heap.size ≤ gb255)); have n3_ := Aside0.mk ((bs0_ hg HB.out : w.heap.size ≤ gb255)); clear HB; have HB := n0_; have BK255 := n1_; have GW255 := n2_; have GE255 := n3_; clear n0_ n1_ n2_ n3_; clear hb hbox hg) | ((with_reducible refine gate_dst (N := 4) rfl ?_); refine boxE_ (N := 4) (cs := #[.int .i64 a1_0, .int .i64 a1_1]) (t := 32) ?_; intro gb256 hg w7 hbox hb; have n0_ := Aside0.mk (bb_ BK255.out hb); have n1_ := Aside0.mk (below_step (bl1_ HB.out GE255.out) hb); have n2_ := Aside0.mk (hbox); have n3_ := Aside0.mk ((bs1_ hg HB.out GE255.out : w.heap.size ≤ gb256)); have n4_ := Aside0.mk ((bs1_ hg HB.out GE255.out : w.heap.size ≤ gb256)); have n5_ := Aside0.mk ((nl_ hg BK255.out : gb255 ≠ gb256)); have n6_ := Aside0.mk ((ng_ hg BK255.out : gb256 ≠ gb255)); clear BK255; clear HB; have BK255 := n0_; have HB := n1_; have BK256 := n2_; have GW256 := n3_; have GE256 := n4_; have NB255_256 := n5_; have NB256_255 := n6_; clear n0_ n1_ n2_ n3_ n4_ n5_ n6_; clear hb hbox hg) | ((with_reducible refine gate_dst (N := 6) rfl ?_); refine boxE_ (N := 6) (cs := #[.int .i64 0, .int .i64 0, .slice none 0 0, .slice none 0 0]) (t := 30) ?_; intro gb257 hg w8 hbox hb; have n0_ := Aside0.mk (bb_ BK255.out hb); have n1_ := Aside0.mk (bb_ BK256.out hb); have n2_ := Aside0.mk (below_step (bl2_ HB.out GE255.out GE256.out) hb); have n3_ := Aside0.mk (hbox); have n4_ := Aside0.mk ((bs2_ hg HB.out GE255.out GE256.out : w.heap.size ≤ gb257)); have n5_ := Aside0.mk ((bs2_ hg HB.out GE255.out GE256.out : w.heap.size ≤ gb257)); have n6_ := Aside0.mk ((nl_ hg BK255.out : gb255 ≠ gb257)); have n7_ := Aside0.mk ((ng_ hg BK255.out : gb257 ≠ gb255)); have n8_ := Aside0.mk ((nl_ hg BK256.out : gb256 ≠ gb257)); have n9_ := Aside0.mk ((ng_ hg BK256.out : gb257 ≠ gb256)); clear BK255; clear BK256; clear HB; have BK255 := n0_; have BK256 := n1_; have HB := n2_; have BK257 := n3_; have GW257 := n4_; have GE257 := n5_; have NB255_257 := n6_; have NB257_255 := n7_; have NB256_257 := n8_; have NB257_256 := n9_; clear n0_ n1_ n2_ n3_ n4_ n5_ n6_ n7_ n8_ n9_; clear hb hbox hg; have hnb9 := NB255_256.out; have hnc9 := NB256_255.out; have hnb10 := NB255_257.out; have hnc10 := NB257_255.out; have hcz11_0 : w8.cell? ⟨gb255, 0, none⟩ = some (.int .i64 a0_0) := (blk_cell BK255.out 0).trans rfl; have hcz11_1 : w8.cell? ⟨gb255, 1, none⟩ = some (.int .i64 a0_1) := (blk_cell BK255.out 1).trans rfl; have hcz11_2 : w8.cell? ⟨gb255, 2, none⟩ = some (.slice A0_2 l0_2.length c0_2) := (blk_cell BK255.out 2).trans rfl; have hcz11_3 : w8.cell? ⟨gb255, 3, none⟩ = some (.slice A0_3 l0_3.length c0_3) := (blk_cell BK255.out 3).trans rfl; have hfz11_0 := blk_frozen BK255.out 0; have hfz11_1 := blk_frozen BK255.out 1; have hfz11_2 := blk_frozen BK255.out 2; have hfz11_3 := blk_frozen BK255.out 3) | ((with_reducible refine gate_dst (N := 7) rfl ?_); refine boxE_ (N := 7) (cs := #[.int .i64 0, .int .i64 0, .slice none 0 0, .slice none 0 0]) (t := 30) ?_; intro gb258 hg w12 hbox hb; have n0_ := Aside0.mk (bb_ BK255.out hb); have n1_ := Aside0.mk (bb_ BK256.out hb); have n2_ := Aside0.mk (bb_ BK257.out hb); have n3_ := Aside0.mk (below_step (bl3_ HB.out GE255.out GE256.out GE257.out) hb); have n4_ := Aside0.mk (hbox); have n5_ := Aside0.mk ((bs3_ hg HB.out GE255.out GE256.out GE257.out : w.heap.size ≤ gb258)); have n6_ := Aside0.mk ((bs3_ hg HB.out GE255.out GE256.out GE257.out : w.heap.size ≤ gb258)); have n7_ := Aside0.mk ((nl_ hg BK255.out : gb255 ≠ gb258)); have n8_ := Aside0.mk ((ng_ hg BK255.out : gb258 ≠ gb255)); have n9_ := Aside0.mk ((nl_ hg BK256.out : gb256 ≠ gb258)); have n10_ := Aside0.mk ((ng_ hg BK256.out : gb258 ≠ gb256)); have n11_ := Aside0.mk ((nl_ hg BK257.out : gb257 ≠ gb258)); have n12_ := Aside0.mk ((ng_ hg BK257.out : gb258 ≠ gb257)); clear BK255; clear BK256; clear BK257; clear HB; have BK255 := n0_; have BK256 := n1_; have BK257 := n2_; have HB := n3_; have BK258 := n4_; have GW258 := n5_; have GE258 := n6_; have NB255_258 := n7_; have NB258_255 := n8_; have NB256_258 := n9_; have NB258_256 := n10_; have NB257_258 := n11_; have NB258_257 := n12_; clear n0_ n1_ n2_ n3_ n4_ n5_ n6_ n7_ n8_ n9_ n10_ n11_ n12_; clear hb hbox hg; have hnb13 := NB258_255.out; have hnc13 := NB255_258.out; have hnb14 := NB258_256.out; have hnc14 := NB256_258.out; have hnb15 := NB258_257.out; have hnc15 := NB257_258.out; have hcz16_0 : w12.cell? ⟨gb258, 0, none⟩ = some (.int .i64 0) := (blk_cell BK258.out 0).trans rfl; have hcz16_1 : w12.cell? ⟨gb258, 1, none⟩ = some (.int .i64 0) := (blk_cell BK258.out 1).trans rfl; have hcz16_2 : w12.cell? ⟨gb258, 2, none⟩ = some (.slice none 0 0) := (blk_cell BK258.out 2).trans rfl; have hcz16_3 : w12.cell? ⟨gb258, 3, none⟩ = some (.slice none 0 0) := (blk_cell BK258.out 3).trans rfl; have hfz16_0 := blk_frozen BK258.out 0; have hfz16_1 := blk_frozen BK258.out 1; have hfz16_2 := blk_frozen BK258.out 2; have hfz16_3 := blk_frozen BK258.out 3; have hnb17 := NB256_257.out; have hnc17 := NB257_256.out; have hcz18_0 : w12.cell? ⟨gb256, 0, none⟩ = some (.int .i64 a1_0) := (blk_cell BK256.out 0).trans rfl; have hcz18_1 : w12.cell? ⟨gb256, 1, none⟩ = some (.int .i64 a1_1) := (blk_cell BK256.out 1).trans rfl; have hfz18_0 := blk_frozen BK256.out 0; have hfz18_1 := blk_frozen BK256.out 1) | ((with_reducible refine gate_callee (f := 45) rfl ?_); refine goesL_ (some 22) rfl rfl Tryd.func45 (by kernel_rfl) rfl #[.agg #[.int .i64 a0_0, .int .i64 a0_1, .slice none 0 0, .slice none 0 0], .bool true, .int .i64 a1_0, .int .i64 (wrap64 (a1_1 - 1))] rfl ob_ ?_; (refine (spec_fiPut.calls k a0_0 a0_1 _ _ ([] : List Int) _ _ ([] : List Int) true a1_0 (wrap64 (a1_1 - 1)) t259 t260 t261 t264 _ ?side1 ?side2 ?side3 ?side4 A5.out).mono ?_); (case side1 => exact Kd.C_nil _ _); (case side2 => exact Nat.le_refl _); (case side3 => exact Kd.C_nil _ _); (case side4 => exact Nat.le_refl _); rintro e w19 ⟨v262, v265, rfl, ho0, ho1, hb⟩; refine ⟨_, rfl, ?_⟩; have n0_ := Aside0.mk (Kd.R_lower ho0 (below_size (bl4_ HB.out GE255.out GE256.out GE257.out GE258.out))); have n1_ := Aside0.mk (Kd.R_lower ho1 (below_size (bl4_ HB.out GE255.out GE256.out GE257.out GE258.out))); have n2_ := Aside0.mk (blk_below (g := gb255) (o := .cells #[.int .i64 a0_0, .int .i64 a0_1, .slice A0_2 l0_2.length c0_2, .slice A0_3 l0_3.length c0_3] 30 (0, 0)) (bf4_ NB255_258.out NB255_258.out NB255_258.out NB255_258.out BK255.out) hb); have n3_ := Aside0.mk (blk_below (g := gb256) (o := .cells #[.int .i64 a1_0, .int .i64 a1_1] 32 (0, 0)) (bf4_ NB256_258.out NB256_258.out NB256_258.out NB256_258.out BK256.out) hb); have n4_ := Aside0.mk (blk_below (g := gb257) (o := .cells #[.int .i64 0, .int .i64 0, .slice none 0 0, .slice none 0 0] 30 (0, 0)) (bf4_ NB257_258.out NB257_258.out NB257_258.out NB257_258.out BK257.out) hb); have n5_ := Aside0.mk (blk_below (g := gb258) (o := .cells #[.int .i64 a0_0, .int .i64 a0_1, .slice none 0 0, .slice none 0 0] 30 (0, 0)) (by (with_reducible repeat (first | refine blk_drewN ?_ _ | refine blk_drew ?_ | refine blk_alloc ?_ _)); refine blk_put (cs := #[.int .i64 a0_0, .int .i64 a0_1, .slice none 0 0, .slice none 0 0]) ?_ 3 _ rfl; (with_reducible repeat (first | refine blk_drewN ?_ _ | refine blk_drew ?_ | refine blk_alloc ?_ _)); refine blk_put (cs := #[.int .i64 a0_0, .int .i64 a0_1, .slice none 0 0, .slice none 0 0]) ?_ 2 _ rfl; (with_reducible repeat (first | refine blk_drewN ?_ _ | refine blk_drew ?_ | refine blk_alloc ?_ _)); refine blk_put (cs := #[.int .i64 a0_0, .int .i64 0, .slice none 0 0, .slice none 0 0]) ?_ 1 _ rfl; (with_reducible repeat (first | refine blk_drewN ?_ _ | refine blk_drew ?_ | refine blk_alloc ?_ _)); refine blk_put (cs := #[.int .i64 0, .int .i64 0, .slice none 0 0, .slice none 0 0]) ?_ 0 _ rfl; (with_reducible repeat (first | refine blk_drewN ?_ _ | refine blk_drew ?_ | refine blk_alloc ?_ _)); exact BK258.out) hb); have n6_ := Aside0.mk (below_step (bl4_ HB.out GE255.out GE256.out GE257.out GE258.out) hb); clear BK255; clear BK256; clear BK257; clear BK258; clear HB; have HO263 := n0_; have HO266 := n1_; have BK255 := n2_; have BK256 := n3_; have BK257 := n4_; have BK258 := n5_; have HB := n6_; clear n0_ n1_ n2_ n3_ n4_ n5_ n6_; (try clear hb); (try clear hb2); (try clear hk); (try clear hi); (try clear ho0); (try clear ho1); have hcz20_0 : w19.cell? ⟨gb257, 0, none⟩ = some (.int .i64 0) := (blk_cell BK257.out 0).trans rfl; have hcz20_1 : w19.cell? ⟨gb257, 1, none⟩ = some (.int .i64 0) := (blk_cell BK257.out 1).trans rfl; have hcz20_2 : w19.cell? ⟨gb257, 2, none⟩ = some (.slice none 0 0) := (blk_cell BK257.out 2).trans rfl; have hcz20_3 : w19.cell? ⟨gb257, 3, none⟩ = some (.slice none 0 0) := (blk_cell BK257.out 3).trans rfl; have hfz20_0 := blk_frozen BK257.out 0; have hfz20_1 := blk_frozen BK257.out 1; have hfz20_2 := blk_frozen BK257.out 2; have hfz20_3 := blk_frozen BK257.out 3; obtain ⟨Ao21, co21, eo21⟩ := Kd.R_slice HO263.out; subst eo21; obtain ⟨Ao22, co22, eo22⟩ := Kd.R_slice HO266.out; subst eo22))
  refine bodyPost_ret (results_cell_row rfl _ _ gb257 30 #[.int .i64 t259, .int .i64 t260, .slice Ao21 t261.length co21, .slice Ao22 t264.length co22] (0, 0) _ rfl (by (with_reducible repeat (first | refine blk_drewN ?_ _ | refine blk_drew ?_ | refine blk_alloc ?_ _)); refine blk_put (cs := #[.int .i64 t259, .int .i64 t260, .slice Ao21 t261.length co21, .slice none 0 0]) ?_ 3 _ rfl; (with_reducible repeat (first | refine blk_drewN ?_ _ | refine blk_drew ?_ | refine blk_alloc ?_ _)); refine blk_put (cs := #[.int .i64 t259, .int .i64 t260, .slice none 0 0, .slice none 0 0]) ?_ 2 _ rfl; (with_reducible repeat (first | refine blk_drewN ?_ _ | refine blk_drew ?_ | refine blk_alloc ?_ _)); refine blk_put (cs := #[.int .i64 t259, .int .i64 0, .slice none 0 0, .slice none 0 0]) ?_ 1 _ rfl; (with_reducible repeat (first | refine blk_drewN ?_ _ | refine blk_drew ?_ | refine blk_alloc ?_ _)); refine blk_put (cs := #[.int .i64 0, .int .i64 0, .slice none 0 0, .slice none 0 0]) ?_ 0 _ rfl; (with_reducible repeat (first | refine blk_drewN ?_ _ | refine blk_drew ?_ | refine blk_alloc ?_ _)); exact BK257.out) Tryd.underlying30 rfl (by kernel_rfl)) rfl ?_
  exact ⟨_, _, er_, by (with_reducible repeat (first | apply Kd.R_alloc | apply Kd.R_drewN | apply Kd.R_drew)); exact Kd.R_mono (Kd.R_far (p := ⟨gb257, 3, none⟩) (Kd.R_far (p := ⟨gb257, 2, none⟩) (Kd.R_far (p := ⟨gb257, 1, none⟩) (Kd.R_far (p := ⟨gb257, 0, none⟩) (Kd.R_types HO263.out BK257.out (by decide)) (fun _ hk => hk.2) (.int .i64 t259)) (fun _ hk => hk.2) (.int .i64 t260)) (fun _ hk => hk.2) (.slice Ao21 t261.length co21)) (fun _ hk => hk.2) (.slice Ao22 t264.length co22)) (fun _ hk => hk.1), by (with_reducible repeat (first | apply Kd.R_alloc | apply Kd.R_drewN | apply Kd.R_drew)); exact Kd.R_mono (Kd.R_far (p := ⟨gb257, 3, none⟩) (Kd.R_far (p := ⟨gb257, 2, none⟩) (Kd.R_far (p := ⟨gb257, 1, none⟩) (Kd.R_far (p := ⟨gb257, 0, none⟩) (Kd.R_types HO266.out BK257.out (by decide)) (fun _ hk => hk.2) (.int .i64 t259)) (fun _ hk => hk.2) (.int .i64 t260)) (fun _ hk => hk.2) (.slice Ao21 t261.length co21)) (fun _ hk => hk.2) (.slice Ao22 t264.length co22)) (fun _ hk => hk.1), bl4_ HB.out GE255.out GE256.out GE257.out GE258.out⟩
 ·rw [if_neg c4] at H
  have c4b0 : (a2 == 0) = false := beq_eq_false_iff_ne.mpr c4
  have c4b1 : (a2 != 0) = true := bne_iff_ne.mpr c4
  by_cases c23 : a2 = 1
  ·rw [if_pos c23] at H
   have c23b0 : (a2 == 1) = true := beq_iff_eq.mpr c23
   have c23b1 : (a2 != 1) = false := bne_eq_false_iff_eq.mpr c23
   clear c23
   replace H := Option.bind_eq_some_iff.mp H
   obtain ⟨⟨t267, t268, t269, t272⟩, A240, H⟩ := H
   replace H : (some (t267, t268, t269, t272)) = some (r1, r2, r3, r4) := H
   have A24 := Aside0.mk A240
   clear A240
   simp only [Option.some.injEq, Prod.mk.injEq] at H
   obtain ⟨rfl, rfl, rfl, rfl⟩ := H
   go_enter Tryd.func30, Tryd.ntmps30
   go_wp2_with (first | ((with_reducible refine gate_dst (N := 3) rfl ?_); refine boxE_ (N := 3) (cs := #[.int .i64 a0_0, .int .i64 a0_1, .slice A0_2 l0_2.length c0_2, .slice A0_3 l0_3.length c0_3]) (t := 30) ?_; intro gb255 hg w25 hbox hb; have n0_ := Aside0.mk (below_step (bl0_ HB.out) hb); have n1_ := Aside0.mk (hbox); have n2_ := Aside0.mk ((bs0_ hg HB.out : w.heap.size ≤ gb255)); have n3_ := Aside0.mk ((bs0_ hg HB.out : w.heap.size ≤ gb255)); clear HB; have HB := n0_; have BK255 := n1_; have GW255 := n2_; have GE255 := n3_; clear n0_ n1_ n2_ n3_; clear hb hbox hg) | ((with_reducible refine gate_dst (N := 4) rfl ?_); refine boxE_ (N := 4) (cs := #[.int .i64 a1_0, .int .i64 a1_1]) (t := 32) ?_; intro gb256 hg w26 hbox hb; have n0_ := Aside0.mk (bb_ BK255.out hb); have n1_ := Aside0.mk (below_step (bl1_ HB.out GE255.out) hb); have n2_ := Aside0.mk (hbox); have n3_ := Aside0.mk ((bs1_ hg HB.out GE255.out : w.heap.size ≤ gb256)); have n4_ := Aside0.mk ((bs1_ hg HB.out GE255.out : w.heap.size ≤ gb256)); have n5_ := Aside0.mk ((nl_ hg BK255.out : gb255 ≠ gb256)); have n6_ := Aside0.mk ((ng_ hg BK255.out : gb256 ≠ gb255)); clear BK255; clear HB; have BK255 := n0_; have HB := n1_; have BK256 := n2_; have GW256 := n3_; have GE256 := n4_; have NB255_256 := n5_; have NB256_255 := n6_; clear n0_ n1_ n2_ n3_ n4_ n5_ n6_; clear hb hbox hg) | ((with_reducible refine gate_dst (N := 6) rfl ?_); refine boxE_ (N := 6) (cs := #[.int .i64 0, .int .i64 0, .slice none 0 0, .slice none 0 0]) (t := 30) ?_; intro gb257 hg w27 hbox hb; have n0_ := Aside0.mk (bb_ BK255.out hb); have n1_ := Aside0.mk (bb_ BK256.out hb); have n2_ := Aside0.mk (below_step (bl2_ HB.out GE255.out GE256.out) hb); have n3_ := Aside0.mk (hbox); have n4_ := Aside0.mk ((bs2_ hg HB.out GE255.out GE256.out : w.heap.size ≤ gb257)); have n5_ := Aside0.mk ((bs2_ hg HB.out GE255.out GE256.out : w.heap.size ≤ gb257)); have n6_ := Aside0.mk ((nl_ hg BK255.out : gb255 ≠ gb257)); have n7_ := Aside0.mk ((ng_ hg BK255.out : gb257 ≠ gb255)); have n8_ := Aside0.mk ((nl_ hg BK256.out : gb256 ≠ gb257)); have n9_ := Aside0.mk ((ng_ hg BK256.out : gb257 ≠ gb256)); clear BK255; clear BK256; clear HB; have BK255 := n0_; have BK256 := n1_; have HB := n2_; have BK257 := n3_; have GW257 := n4_; have GE257 := n5_; have NB255_257 := n6_; have NB257_255 := n7_; have NB256_257 := n8_; have NB257_256 := n9_; clear n0_ n1_ n2_ n3_ n4_ n5_ n6_ n7_ n8_ n9_; clear hb hbox hg; have hnb28 := NB255_256.out; have hnc28 := NB256_255.out; have hnb29 := NB255_257.out; have hnc29 := NB257_255.out; have hcz30_0 : w27.cell? ⟨gb255, 0, none⟩ = some (.int .i64 a0_0) := (blk_cell BK255.out 0).trans rfl; have hcz30_1 : w27.cell? ⟨gb255, 1, none⟩ = some (.int .i64 a0_1) := (blk_cell BK255.out 1).trans rfl; have hcz30_2 : w27.cell? ⟨gb255, 2, none⟩ = some (.slice A0_2 l0_2.length c0_2) := (blk_cell BK255.out 2).trans rfl; have hcz30_3 : w27.cell? ⟨gb255, 3, none⟩ = some (.slice A0_3 l0_3.length c0_3) := (blk_cell BK255.out 3).trans rfl; have hfz30_0 := blk_frozen BK255.out 0; have hfz30_1 := blk_frozen BK255.out 1; have hfz30_2 := blk_frozen BK255.out 2; have hfz30_3 := blk_frozen BK255.out 3) | ((with_reducible refine gate_dst (N := 7) rfl ?_); refine boxE_ (N := 7) (cs := #[.int .i64 0, .int .i64 0, .slice none 0 0, .slice none 0 0]) (t := 30) ?_; intro gb258 hg w31 hbox hb; have n0_ := Aside0.mk (bb_ BK255.out hb); have n1_ := Aside0.mk (bb_ BK256.out hb); have n2_ := Aside0.mk (bb_ BK257.out hb); have n3_ := Aside0.mk (below_step (bl3_ HB.out GE255.out GE256.out GE257.out) hb); have n4_ := Aside0.mk (hbox); have n5_ := Aside0.mk ((bs3_ hg HB.out GE255.out GE256.out GE257.out : w.heap.size ≤ gb258)); have n6_ := Aside0.mk ((bs3_ hg HB.out GE255.out GE256.out GE257.out : w.heap.size ≤ gb258)); have n7_ := Aside0.mk ((nl_ hg BK255.out : gb255 ≠ gb258)); have n8_ := Aside0.mk ((ng_ hg BK255.out : gb258 ≠ gb255)); have n9_ := Aside0.mk ((nl_ hg BK256.out : gb256 ≠ gb258)); have n10_ := Aside0.mk ((ng_ hg BK256.out : gb258 ≠ gb256)); have n11_ := Aside0.mk ((nl_ hg BK257.out : gb257 ≠ gb258)); have n12_ := Aside0.mk ((ng_ hg BK257.out : gb258 ≠ gb257)); clear BK255; clear BK256; clear BK257; clear HB; have BK255 := n0_; have BK256 := n1_; have BK257 := n2_; have HB := n3_; have BK258 := n4_; have GW258 := n5_; have GE258 := n6_; have NB255_258 := n7_; have NB258_255 := n8_; have NB256_258 := n9_; have NB258_256 := n10_; have NB257_258 := n11_; have NB258_257 := n12_; clear n0_ n1_ n2_ n3_ n4_ n5_ n6_ n7_ n8_ n9_ n10_ n11_ n12_; clear hb hbox hg; have hnb32 := NB258_255.out; have hnc32 := NB255_258.out; have hnb33 := NB258_256.out; have hnc33 := NB256_258.out; have hnb34 := NB258_257.out; have hnc34 := NB257_258.out; have hcz35_0 : w31.cell? ⟨gb258, 0, none⟩ = some (.int .i64 0) := (blk_cell BK258.out 0).trans rfl; have hcz35_1 : w31.cell? ⟨gb258, 1, none⟩ = some (.int .i64 0) := (blk_cell BK258.out 1).trans rfl; have hcz35_2 : w31.cell? ⟨gb258, 2, none⟩ = some (.slice none 0 0) := (blk_cell BK258.out 2).trans rfl; have hcz35_3 : w31.cell? ⟨gb258, 3, none⟩ = some (.slice none 0 0) := (blk_cell BK258.out 3).trans rfl; have hfz35_0 := blk_frozen BK258.out 0; have hfz35_1 := blk_frozen BK258.out 1; have hfz35_2 := blk_frozen BK258.out 2; have hfz35_3 := blk_frozen BK258.out 3; have hnb36 := NB256_257.out; have hnc36 := NB257_256.out; have hcz37_0 : w31.cell? ⟨gb256, 0, none⟩ = some (.int .i64 a1_0) := (blk_cell BK256.out 0).trans rfl; have hcz37_1 : w31.cell? ⟨gb256, 1, none⟩ = some (.int .i64 a1_1) := (blk_cell BK256.out 1).trans rfl; have hfz37_0 := blk_frozen BK256.out 0; have hfz37_1 := blk_frozen BK256.out 1) | ((with_reducible refine gate_callee (f := 45) rfl ?_); refine goesL_ (some 30) rfl rfl Tryd.func45 (by kernel_rfl) rfl #[.agg #[.int .i64 a0_0, .int .i64 a0_1, .slice none 0 0, .slice none 0 0], .bool false, .int .i64 a1_0, .int .i64 a1_1] rfl ob_ ?_; (refine (spec_fiPut.calls k a0_0 a0_1 _ _ ([] : List Int) _ _ ([] : List Int) false a1_0 a1_1 t267 t268 t269 t272 _ ?side1 ?side2 ?side3 ?side4 A24.out).mono ?_); (case side1 => exact Kd.C_nil _ _); (case side2 => exact Nat.le_refl _); (case side3 => exact Kd.C_nil _ _); (case side4 => exact Nat.le_refl _); rintro e w38 ⟨v270, v273, rfl, ho0, ho1, hb⟩; refine ⟨_, rfl, ?_⟩; have n0_ := Aside0.mk (Kd.R_lower ho0 (below_size (bl4_ HB.out GE255.out GE256.out GE257.out GE258.out))); have n1_ := Aside0.mk (Kd.R_lower ho1 (below_size (bl4_ HB.out GE255.out GE256.out GE257.out GE258.out))); have n2_ := Aside0.mk (blk_below (g := gb255) (o := .cells #[.int .i64 a0_0, .int .i64 a0_1, .slice A0_2 l0_2.length c0_2, .slice A0_3 l0_3.length c0_3] 30 (0, 0)) (bf4_ NB255_258.out NB255_258.out NB255_258.out NB255_258.out BK255.out) hb); have n3_ := Aside0.mk (blk_below (g := gb256) (o := .cells #[.int .i64 a1_0, .int .i64 a1_1] 32 (0, 0)) (bf4_ NB256_258.out NB256_258.out NB256_258.out NB256_258.out BK256.out) hb); have n4_ := Aside0.mk (blk_below (g := gb257) (o := .cells #[.int .i64 0, .int .i64 0, .slice none 0 0, .slice none 0 0] 30 (0, 0)) (bf4_ NB257_258.out NB257_258.out NB257_258.out NB257_258.out BK257.out) hb); have n5_ := Aside0.mk (blk_below (g := gb258) (o := .cells #[.int .i64 a0_0, .int .i64 a0_1, .slice none 0 0, .slice none 0 0] 30 (0, 0)) (by (with_reducible repeat (first | refine blk_drewN ?_ _ | refine blk_drew ?_ | refine blk_alloc ?_ _)); refine blk_put (cs := #[.int .i64 a0_0, .int .i64 a0_1, .slice none 0 0, .slice none 0 0]) ?_ 3 _ rfl; (with_reducible repeat (first | refine blk_drewN ?_ _ | refine blk_drew ?_ | refine blk_alloc ?_ _)); refine blk_put (cs := #[.int .i64 a0_0, .int .i64 a0_1, .slice none 0 0, .slice none 0 0]) ?_ 2 _ rfl; (with_reducible repeat (first | refine blk_drewN ?_ _ | refine blk_drew ?_ | refine blk_alloc ?_ _)); refine blk_put (cs := #[.int .i64 a0_0, .int .i64 0, .slice none 0 0, .slice none 0 0]) ?_ 1 _ rfl; (with_reducible repeat (first | refine blk_drewN ?_ _ | refine blk_drew ?_ | refine blk_alloc ?_ _)); refine blk_put (cs := #[.int .i64 0, .int .i64 0, .slice none 0 0, .slice none 0 0]) ?_ 0 _ rfl; (with_reducible repeat (first | refine blk_drewN ?_ _ | refine blk_drew ?_ | refine blk_alloc ?_ _)); exact BK258.out) hb); have n6_ := Aside0.mk (below_step (bl4_ HB.out GE255.out GE256.out GE257.out GE258.out) hb); clear BK255; clear BK256; clear BK257; clear BK258; clear HB; have HO271 := n0_; have HO274 := n1_; have BK255 := n2_; have BK256 := n3_; have BK257 := n4_; have BK258 := n5_; have HB := n6_; clear n0_ n1_ n2_ n3_ n4_ n5_ n6_; (try clear hb); (try clear hb2); (try clear hk); (try clear hi); (try clear ho0); (try clear ho1); have hcz39_0 : w38.cell? ⟨gb257, 0, none⟩ = some (.int .i64 0) := (blk_cell BK257.out 0).trans rfl; have hcz39_1 : w38.cell? ⟨gb257, 1, none⟩ = some (.int .i64 0) := (blk_cell BK257.out 1).trans rfl; have hcz39_2 : w38.cell? ⟨gb257, 2, none⟩ = some (.slice none 0 0) := (blk_cell BK257.out 2).trans rfl; have hcz39_3 : w38.cell? ⟨gb257, 3, none⟩ = some (.slice none 0 0) := (blk_cell BK257.out 3).trans rfl; have hfz39_0 := blk_frozen BK257.out 0; have hfz39_1 := blk_frozen BK257.out 1; have hfz39_2 := blk_frozen BK257.out 2; have hfz39_3 := blk_frozen BK257.out 3; obtain ⟨Ao40, co40, eo40⟩ := Kd.R_slice HO271.out; subst eo40; obtain ⟨Ao41, co41, eo41⟩ := Kd.R_slice HO274.out; subst eo41))
   refine bodyPost_ret (results_cell_row rfl _ _ gb257 30 #[.int .i64 t267, .int .i64 t268, .slice Ao40 t269.length co40, .slice Ao41 t272.length co41] (0, 0) _ rfl (by (with_reducible repeat (first | refine blk_drewN ?_ _ | refine blk_drew ?_ | refine blk_alloc ?_ _)); refine blk_put (cs := #[.int .i64 t267, .int .i64 t268, .slice Ao40 t269.length co40, .slice none 0 0]) ?_ 3 _ rfl; (with_reducible repeat (first | refine blk_drewN ?_ _ | refine blk_drew ?_ | refine blk_alloc ?_ _)); refine blk_put (cs := #[.int .i64 t267, .int .i64 t268, .slice none 0 0, .slice none 0 0]) ?_ 2 _ rfl; (with_reducible repeat (first | refine blk_drewN ?_ _ | refine blk_drew ?_ | refine blk_alloc ?_ _)); refine blk_put (cs := #[.int .i64 t267, .int .i64 0, .slice none 0 0, .slice none 0 0]) ?_ 1 _ rfl; (with_reducible repeat (first | refine blk_drewN ?_ _ | refine blk_drew ?_ | refine blk_alloc ?_ _)); refine blk_put (cs := #[.int .i64 0, .int .i64 0, .slice none 0 0, .slice none 0 0]) ?_ 0 _ rfl; (with_reducible repeat (first | refine blk_drewN ?_ _ | refine blk_drew ?_ | refine blk_alloc ?_ _)); exact BK257.out) Tryd.underlying30 rfl (by kernel_rfl)) rfl ?_
   exact ⟨_, _, er_, by (with_reducible repeat (first | apply Kd.R_alloc | apply Kd.R_drewN | apply Kd.R_drew)); exact Kd.R_mono (Kd.R_far (p := ⟨gb257, 3, none⟩) (Kd.R_far (p := ⟨gb257, 2, none⟩) (Kd.R_far (p := ⟨gb257, 1, none⟩) (Kd.R_far (p := ⟨gb257, 0, none⟩) (Kd.R_types HO271.out BK257.out (by decide)) (fun _ hk => hk.2) (.int .i64 t267)) (fun _ hk => hk.2) (.int .i64 t268)) (fun _ hk => hk.2) (.slice Ao40 t269.length co40)) (fun _ hk => hk.2) (.slice Ao41 t272.length co41)) (fun _ hk => hk.1), by (with_reducible repeat (first | apply Kd.R_alloc | apply Kd.R_drewN | apply Kd.R_drew)); exact Kd.R_mono (Kd.R_far (p := ⟨gb257, 3, none⟩) (Kd.R_far (p := ⟨gb257, 2, none⟩) (Kd.R_far (p := ⟨gb257, 1, none⟩) (Kd.R_far (p := ⟨gb257, 0, none⟩) (Kd.R_types HO274.out BK257.out (by decide)) (fun _ hk => hk.2) (.int .i64 t267)) (fun _ hk => hk.2) (.int .i64 t268)) (fun _ hk => hk.2) (.slice Ao40 t269.length co40)) (fun _ hk => hk.2) (.slice Ao41 t272.length co41)) (fun _ hk => hk.1), bl4_ HB.out GE255.out GE256.out GE257.out GE258.out⟩
  ·rw [if_neg c23] at H
   have c23b0 : (a2 == 1) = false := beq_eq_false_iff_ne.mpr c23
   have c23b1 : (a2 != 1) = true := bne_iff_ne.mpr c23
   by_cases c42 : a2 = 2
   ·rw [if_pos c42] at H
    have c42b0 : (a2 == 2) = true := beq_iff_eq.mpr c42
    have c42b1 : (a2 != 2) = false := bne_eq_false_iff_eq.mpr c42
    clear c42
    replace H := Option.bind_eq_some_iff.mp H
    obtain ⟨⟨t275, t276, t277, t280⟩, A430, H⟩ := H
    replace H : (some (t275, t276, t277, t280)) = some (r1, r2, r3, r4) := H
    have A43 := Aside0.mk A430
    clear A430
    simp only [Option.some.injEq, Prod.mk.injEq] at H
    obtain ⟨rfl, rfl, rfl, rfl⟩ := H
    go_enter Tryd.func30, Tryd.ntmps30
    go_wp2_with (first | ((with_reducible refine gate_dst (N := 3) rfl ?_); refine boxE_ (N := 3) (cs := #[.int .i64 a0_0, .int .i64 a0_1, .slice A0_2 l0_2.length c0_2, .slice A0_3 l0_3.length c0_3]) (t := 30) ?_; intro gb255 hg w44 hbox hb; have n0_ := Aside0.mk (below_step (bl0_ HB.out) hb); have n1_ := Aside0.mk (hbox); have n2_ := Aside0.mk ((bs0_ hg HB.out : w.heap.size ≤ gb255)); have n3_ := Aside0.mk ((bs0_ hg HB.out : w.heap.size ≤ gb255)); clear HB; have HB := n0_; have BK255 := n1_; have GW255 := n2_; have GE255 := n3_; clear n0_ n1_ n2_ n3_; clear hb hbox hg) | ((with_reducible refine gate_dst (N := 4) rfl ?_); refine boxE_ (N := 4) (cs := #[.int .i64 a1_0, .int .i64 a1_1]) (t := 32) ?_; intro gb256 hg w45 hbox hb; have n0_ := Aside0.mk (bb_ BK255.out hb); have n1_ := Aside0.mk (below_step (bl1_ HB.out GE255.out) hb); have n2_ := Aside0.mk (hbox); have n3_ := Aside0.mk ((bs1_ hg HB.out GE255.out : w.heap.size ≤ gb256)); have n4_ := Aside0.mk ((bs1_ hg HB.out GE255.out : w.heap.size ≤ gb256)); have n5_ := Aside0.mk ((nl_ hg BK255.out : gb255 ≠ gb256)); have n6_ := Aside0.mk ((ng_ hg BK255.out : gb256 ≠ gb255)); clear BK255; clear HB; have BK255 := n0_; have HB := n1_; have BK256 := n2_; have GW256 := n3_; have GE256 := n4_; have NB255_256 := n5_; have NB256_255 := n6_; clear n0_ n1_ n2_ n3_ n4_ n5_ n6_; clear hb hbox hg) | ((with_reducible refine gate_dst (N := 6) rfl ?_); refine boxE_ (N := 6) (cs := #[.int .i64 0, .int .i64 0, .slice none 0 0, .slice none 0 0]) (t := 30) ?_; intro gb257 hg w46 hbox hb; have n0_ := Aside0.mk (bb_ BK255.out hb); have n1_ := Aside0.mk (bb_ BK256.out hb); have n2_ := Aside0.mk (below_step (bl2_ HB.out GE255.out GE256.out) hb); have n3_ := Aside0.mk (hbox); have n4_ := Aside0.mk ((bs2_ hg HB.out GE255.out GE256.out : w.heap.size ≤ gb257)); have n5_ := Aside0.mk ((bs2_ hg HB.out GE255.out GE256.out : w.heap.size ≤ gb257)); have n6_ := Aside0.mk ((nl_ hg BK255.out : gb255 ≠ gb257)); have n7_ := Aside0.mk ((ng_ hg BK255.out : gb257 ≠ gb255)); have n8_ := Aside0.mk ((nl_ hg BK256.out : gb256 ≠ gb257)); have n9_ := Aside0.mk ((ng_ hg BK256.out : gb257 ≠ gb256)); clear BK255; clear BK256; clear HB; have BK255 := n0_; have BK256 := n1_; have HB := n2_; have BK257 := n3_; have GW257 := n4_; have GE257 := n5_; have NB255_257 := n6_; have NB257_255 := n7_; have NB256_257 := n8_; have NB257_256 := n9_; clear n0_ n1_ n2_ n3_ n4_ n5_ n6_ n7_ n8_ n9_; clear hb hbox hg; have hnb47 := NB255_256.out; have hnc47 := NB256_255.out; have hnb48 := NB255_257.out; have hnc48 := NB257_255.out; have hcz49_0 : w46.cell? ⟨gb255, 0, none⟩ = some (.int .i64 a0_0) := (blk_cell BK255.out 0).trans rfl; have hcz49_1 : w46.cell? ⟨gb255, 1, none⟩ = some (.int .i64 a0_1) := (blk_cell BK255.out 1).trans rfl; have hcz49_2 : w46.cell? ⟨gb255, 2, none⟩ = some (.slice A0_2 l0_2.length c0_2) := (blk_cell BK255.out 2).trans rfl; have hcz49_3 : w46.cell? ⟨gb255, 3, none⟩ = some (.slice A0_3 l0_3.length c0_3) := (blk_cell BK255.out 3).trans rfl; have hfz49_0 := blk_frozen BK255.out 0; have hfz49_1 := blk_frozen BK255.out 1; have hfz49_2 := blk_frozen BK255.out 2; have hfz49_3 := blk_frozen BK255.out 3) | ((with_reducible refine gate_dst (N := 7) rfl ?_); refine boxE_ (N := 7) (cs := #[.int .i64 0, .int .i64 0, .slice none 0 0, .slice none 0 0]) (t := 30) ?_; intro gb258 hg w50 hbox hb; have n0_ := Aside0.mk (bb_ BK255.out hb); have n1_ := Aside0.mk (bb_ BK256.out hb); have n2_ := Aside0.mk (bb_ BK257.out hb); have n3_ := Aside0.mk (below_step (bl3_ HB.out GE255.out GE256.out GE257.out) hb); have n4_ := Aside0.mk (hbox); have n5_ := Aside0.mk ((bs3_ hg HB.out GE255.out GE256.out GE257.out : w.heap.size ≤ gb258)); have n6_ := Aside0.mk ((bs3_ hg HB.out GE255.out GE256.out GE257.out : w.heap.size ≤ gb258)); have n7_ := Aside0.mk ((nl_ hg BK255.out : gb255 ≠ gb258)); have n8_ := Aside0.mk ((ng_ hg BK255.out : gb258 ≠ gb255)); have n9_ := Aside0.mk ((nl_ hg BK256.out : gb256 ≠ gb258)); have n10_ := Aside0.mk ((ng_ hg BK256.out : gb258 ≠ gb256)); have n11_ := Aside0.mk ((nl_ hg BK257.out : gb257 ≠ gb258)); have n12_ := Aside0.mk ((ng_ hg BK257.out : gb258 ≠ gb257)); clear BK255; clear BK256; clear BK257; clear HB; have BK255 := n0_; have BK256 := n1_; have BK257 := n2_; have HB := n3_; have BK258 := n4_; have GW258 := n5_; have GE258 := n6_; have NB255_258 := n7_; have NB258_255 := n8_; have NB256_258 := n9_; have NB258_256 := n10_; have NB257_258 := n11_; have NB258_257 := n12_; clear n0_ n1_ n2_ n3_ n4_ n5_ n6_ n7_ n8_ n9_ n10_ n11_ n12_; clear hb hbox hg; have hnb51 := NB258_255.out; have hnc51 := NB255_258.out; have hnb52 := NB258_256.out; have hnc52 := NB256_258.out; have hnb53 := NB258_257.out; have hnc53 := NB257_258.out; have hcz54_0 : w50.cell? ⟨gb258, 0, none⟩ = some (.int .i64 0) := (blk_cell BK258.out 0).trans rfl; have hcz54_1 : w50.cell? ⟨gb258, 1, none⟩ = some (.int .i64 0) := (blk_cell BK258.out 1).trans rfl; have hcz54_2 : w50.cell? ⟨gb258, 2, none⟩ = some (.slice none 0 0) := (blk_cell BK258.out 2).trans rfl; have hcz54_3 : w50.cell? ⟨gb258, 3, none⟩ = some (.slice none 0 0) := (blk_cell BK258.out 3).trans rfl; have hfz54_0 := blk_frozen BK258.out 0; have hfz54_1 := blk_frozen BK258.out 1; have hfz54_2 := blk_frozen BK258.out 2; have hfz54_3 := blk_frozen BK258.out 3; have hnb55 := NB256_257.out; have hnc55 := NB257_256.out; have hcz56_0 : w50.cell? ⟨gb256, 0, none⟩ = some (.int .i64 a1_0) := (blk_cell BK256.out 0).trans rfl; have hcz56_1 : w50.cell? ⟨gb256, 1, none⟩ = some (.int .i64 a1_1) := (blk_cell BK256.out 1).trans rfl; have hfz56_0 := blk_frozen BK256.out 0; have hfz56_1 := blk_frozen BK256.out 1) | ((with_reducible refine gate_callee (f := 45) rfl ?_); refine goesL_ (some 38) rfl rfl Tryd.func45 (by kernel_rfl) rfl #[.agg #[.int .i64 a0_0, .int .i64 a0_1, .slice none 0 0, .slice none 0 0], .bool true, .int .i64 a1_0, .int .i64 a1_1] rfl ob_ ?_; (refine (spec_fiPut.calls k a0_0 a0_1 _ _ ([] : List Int) _ _ ([] : List Int) true a1_0 a1_1 t275 t276 t277 t280 _ ?side1 ?side2 ?side3 ?side4 A43.out).mono ?_); (case side1 => exact Kd.C_nil _ _); (case side2 => exact Nat.le_refl _); (case side3 => exact Kd.C_nil _ _); (case side4 => exact Nat.le_refl _); rintro e w57 ⟨v278, v281, rfl, ho0, ho1, hb⟩; refine ⟨_, rfl, ?_⟩; have n0_ := Aside0.mk (Kd.R_lower ho0 (below_size (bl4_ HB.out GE255.out GE256.out GE257.out GE258.out))); have n1_ := Aside0.mk (Kd.R_lower ho1 (below_size (bl4_ HB.out GE255.out GE256.out GE257.out GE258.out))); have n2_ := Aside0.mk (blk_below (g := gb255) (o := .cells #[.int .i64 a0_0, .int .i64 a0_1, .slice A0_2 l0_2.length c0_2, .slice A0_3 l0_3.length c0_3] 30 (0, 0)) (bf4_ NB255_258.out NB255_258.out NB255_258.out NB255_258.out BK255.out) hb); have n3_ := Aside0.mk (blk_below (g := gb256) (o := .cells #[.int .i64 a1_0, .int .i64 a1_1] 32 (0, 0)) (bf4_ NB256_258.out NB256_258.out NB256_258.out NB256_258.out BK256.out) hb); have n4_ := Aside0.mk (blk_below (g := gb257) (o := .cells #[.int .i64 0, .int .i64 0, .slice none 0 0, .slice none 0 0] 30 (0, 0)) (bf4_ NB257_258.out NB257_258.out NB257_258.out NB257_258.out BK257.out) hb); have n5_ := Aside0.mk (blk_below (g := gb258) (o := .cells #[.int .i64 a0_0, .int .i64 a0_1, .slice none 0 0, .slice none 0 0] 30 (0, 0)) (by (with_reducible repeat (first | refine blk_drewN ?_ _ | refine blk_drew ?_ | refine blk_alloc ?_ _)); refine blk_put (cs := #[.int .i64 a0_0, .int .i64 a0_1, .slice none 0 0, .slice none 0 0]) ?_ 3 _ rfl; (with_reducible repeat (first | refine blk_drewN ?_ _ | refine blk_drew ?_ | refine blk_alloc ?_ _)); refine blk_put (cs := #[.int .i64 a0_0, .int .i64 a0_1, .slice none 0 0, .slice none 0 0]) ?_ 2 _ rfl; (with_reducible repeat (first | refine blk_drewN ?_ _ | refine blk_drew ?_ | refine blk_alloc ?_ _)); refine blk_put (cs := #[.int .i64 a0_0, .int .i64 0, .slice none 0 0, .slice none 0 0]) ?_ 1 _ rfl; (with_reducible repeat (first | refine blk_drewN ?_ _ | refine blk_drew ?_ | refine blk_alloc ?_ _)); refine blk_put (cs := #[.int .i64 0, .int .i64 0, .slice none 0 0, .slice none 0 0]) ?_ 0 _ rfl; (with_reducible repeat (first | refine blk_drewN ?_ _ | refine blk_drew ?_ | refine blk_alloc ?_ _)); exact BK258.out) hb); have n6_ := Aside0.mk (below_step (bl4_ HB.out GE255.out GE256.out GE257.out GE258.out) hb); clear BK255; clear BK256; clear BK257; clear BK258; clear HB; have HO279 := n0_; have HO282 := n1_; have BK255 := n2_; have BK256 := n3_; have BK257 := n4_; have BK258 := n5_; have HB := n6_; clear n0_ n1_ n2_ n3_ n4_ n5_ n6_; (try clear hb); (try clear hb2); (try clear hk); (try clear hi); (try clear ho0); (try clear ho1); have hcz58_0 : w57.cell? ⟨gb257, 0, none⟩ = some (.int .i64 0) := (blk_cell BK257.out 0).trans rfl; have hcz58_1 : w57.cell? ⟨gb257, 1, none⟩ = some (.int .i64 0) := (blk_cell BK257.out 1).trans rfl; have hcz58_2 : w57.cell? ⟨gb257, 2, none⟩ = some (.slice none 0 0) := (blk_cell BK257.out 2).trans rfl; have hcz58_3 : w57.cell? ⟨gb257, 3, none⟩ = some (.slice none 0 0) := (blk_cell BK257.out 3).trans rfl; have hfz58_0 := blk_frozen BK257.out 0; have hfz58_1 := blk_frozen BK257.out 1; have hfz58_2 := blk_frozen BK257.out 2; have hfz58_3 := blk_frozen BK257.out 3; obtain ⟨Ao59, co59, eo59⟩ := Kd.R_slice HO279.out; subst eo59; obtain ⟨Ao60, co60, eo60⟩ := Kd.R_slice HO282.out; subst eo60))
    refine bodyPost_ret (results_cell_row rfl _ _ gb257 30 #[.int .i64 t275, .int .i64 t276, .slice Ao59 t277.length co59, .slice Ao60 t280.length co60] (0, 0) _ rfl (by (with_reducible repeat (first | refine blk_drewN ?_ _ | refine blk_drew ?_ | refine blk_alloc ?_ _)); refine blk_put (cs := #[.int .i64 t275, .int .i64 t276, .slice Ao59 t277.length co59, .slice none 0 0]) ?_ 3 _ rfl; (with_reducible repeat (first | refine blk_drewN ?_ _ | refine blk_drew ?_ | refine blk_alloc ?_ _)); refine blk_put (cs := #[.int .i64 t275, .int .i64 t276, .slice none 0 0, .slice none 0 0]) ?_ 2 _ rfl; (with_reducible repeat (first | refine blk_drewN ?_ _ | refine blk_drew ?_ | refine blk_alloc ?_ _)); refine blk_put (cs := #[.int .i64 t275, .int .i64 0, .slice none 0 0, .slice none 0 0]) ?_ 1 _ rfl; (with_reducible repeat (first | refine blk_drewN ?_ _ | refine blk_drew ?_ | refine blk_alloc ?_ _)); refine blk_put (cs := #[.int .i64 0, .int .i64 0, .slice none 0 0, .slice none 0 0]) ?_ 0 _ rfl; (with_reducible repeat (first | refine blk_drewN ?_ _ | refine blk_drew ?_ | refine blk_alloc ?_ _)); exact BK257.out) Tryd.underlying30 rfl (by kernel_rfl)) rfl ?_
    exact ⟨_, _, er_, by (with_reducible repeat (first | apply Kd.R_alloc | apply Kd.R_drewN | apply Kd.R_drew)); exact Kd.R_mono (Kd.R_far (p := ⟨gb257, 3, none⟩) (Kd.R_far (p := ⟨gb257, 2, none⟩) (Kd.R_far (p := ⟨gb257, 1, none⟩) (Kd.R_far (p := ⟨gb257, 0, none⟩) (Kd.R_types HO279.out BK257.out (by decide)) (fun _ hk => hk.2) (.int .i64 t275)) (fun _ hk => hk.2) (.int .i64 t276)) (fun _ hk => hk.2) (.slice Ao59 t277.length co59)) (fun _ hk => hk.2) (.slice Ao60 t280.length co60)) (fun _ hk => hk.1), by (with_reducible repeat (first | apply Kd.R_alloc | apply Kd.R_drewN | apply Kd.R_drew)); exact Kd.R_mono (Kd.R_far (p := ⟨gb257, 3, none⟩) (Kd.R_far (p := ⟨gb257, 2, none⟩) (Kd.R_far (p := ⟨gb257, 1, none⟩) (Kd.R_far (p := ⟨gb257, 0, none⟩) (Kd.R_types HO282.out BK257.out (by decide)) (fun _ hk => hk.2) (.int .i64 t275)) (fun _ hk => hk.2) (.int .i64 t276)) (fun _ hk => hk.2) (.slice Ao59 t277.length co59)) (fun _ hk => hk.2) (.slice Ao60 t280.length co60)) (fun _ hk => hk.1), bl4_ HB.out GE255.out GE256.out GE257.out GE258.out⟩
   ·rw [if_neg c42] at H
    have c42b0 : (a2 == 2) = false := beq_eq_false_iff_ne.mpr c42
    have c42b1 : (a2 != 2) = true := bne_iff_ne.mpr c42
    replace H := Option.bind_eq_some_iff.mp H
    obtain ⟨⟨t283, t284, t285, t288⟩, A610, H⟩ := H
    replace H : (some (t283, t284, t285, t288)) = some (r1, r2, r3, r4) := H
    have A61 := Aside0.mk A610
    clear A610
    simp only [Option.some.injEq, Prod.mk.injEq] at H
    obtain ⟨rfl, rfl, rfl, rfl⟩ := H
    go_enter Tryd.func30, Tryd.ntmps30
    go_wp2_with (first | ((with_reducible refine gate_dst (N := 3) rfl ?_); refine boxE_ (N := 3) (cs := #[.int .i64 a0_0, .int .i64 a0_1, .slice A0_2 l0_2.length c0_2, .slice A0_3 l0_3.length c0_3]) (t := 30) ?_; intro gb255 hg w62 hbox hb; have n0_ := Aside0.mk (below_step (bl0_ HB.out) hb); have n1_ := Aside0.mk (hbox); have n2_ := Aside0.mk ((bs0_ hg HB.out : w.heap.size ≤ gb255)); have n3_ := Aside0.mk ((bs0_ hg HB.out : w.heap.size ≤ gb255)); clear HB; have HB := n0_; have BK255 := n1_; have GW255 := n2_; have GE255 := n3_; clear n0_ n1_ n2_ n3_; clear hb hbox hg) | ((with_reducible refine gate_dst (N := 4) rfl ?_); refine boxE_ (N := 4) (cs := #[.int .i64 a1_0, .int .i64 a1_1]) (t := 32) ?_; intro gb256 hg w63 hbox hb; have n0_ := Aside0.mk (bb_ BK255.out hb); have n1_ := Aside0.mk (below_step (bl1_ HB.out GE255.out) hb); have n2_ := Aside0.mk (hbox); have n3_ := Aside0.mk ((bs1_ hg HB.out GE255.out : w.heap.size ≤ gb256)); have n4_ := Aside0.mk ((bs1_ hg HB.out GE255.out : w.heap.size ≤ gb256)); have n5_ := Aside0.mk ((nl_ hg BK255.out : gb255 ≠ gb256)); have n6_ := Aside0.mk ((ng_ hg BK255.out : gb256 ≠ gb255)); clear BK255; clear HB; have BK255 := n0_; have HB := n1_; have BK256 := n2_; have GW256 := n3_; have GE256 := n4_; have NB255_256 := n5_; have NB256_255 := n6_; clear n0_ n1_ n2_ n3_ n4_ n5_ n6_; clear hb hbox hg) | ((with_reducible refine gate_dst (N := 6) rfl ?_); refine boxE_ (N := 6) (cs := #[.int .i64 0, .int .i64 0, .slice none 0 0, .slice none 0 0]) (t := 30) ?_; intro gb257 hg w64 hbox hb; have n0_ := Aside0.mk (bb_ BK255.out hb); have n1_ := Aside0.mk (bb_ BK256.out hb); have n2_ := Aside0.mk (below_step (bl2_ HB.out GE255.out GE256.out) hb); have n3_ := Aside0.mk (hbox); have n4_ := Aside0.mk ((bs2_ hg HB.out GE255.out GE256.out : w.heap.size ≤ gb257)); have n5_ := Aside0.mk ((bs2_ hg HB.out GE255.out GE256.out : w.heap.size ≤ gb257)); have n6_ := Aside0.mk ((nl_ hg BK255.out : gb255 ≠ gb257)); have n7_ := Aside0.mk ((ng_ hg BK255.out : gb257 ≠ gb255)); have n8_ := Aside0.mk ((nl_ hg BK256.out : gb256 ≠ gb257)); have n9_ := Aside0.mk ((ng_ hg BK256.out : gb257 ≠ gb256)); clear BK255; clear BK256; clear HB; have BK255 := n0_; have BK256 := n1_; have HB := n2_; have BK257 := n3_; have GW257 := n4_; have GE257 := n5_; have NB255_257 := n6_; have NB257_255 := n7_; have NB256_257 := n8_; have NB257_256 := n9_; clear n0_ n1_ n2_ n3_ n4_ n5_ n6_ n7_ n8_ n9_; clear hb hbox hg; have hnb65 := NB255_256.out; have hnc65 := NB256_255.out; have hnb66 := NB255_257.out; have hnc66 := NB257_255.out; have hcz67_0 : w64.cell? ⟨gb255, 0, none⟩ = some (.int .i64 a0_0) := (blk_cell BK255.out 0).trans rfl; have hcz67_1 : w64.cell? ⟨gb255, 1, none⟩ = some (.int .i64 a0_1) := (blk_cell BK255.out 1).trans rfl; have hcz67_2 : w64.cell? ⟨gb255, 2, none⟩ = some (.slice A0_2 l0_2.length c0_2) := (blk_cell BK255.out 2).trans rfl; have hcz67_3 : w64.cell? ⟨gb255, 3, none⟩ = some (.slice A0_3 l0_3.length c0_3) := (blk_cell BK255.out 3).trans rfl; have hfz67_0 := blk_frozen BK255.out 0; have hfz67_1 := blk_frozen BK255.out 1; have hfz67_2 := blk_frozen BK255.out 2; have hfz67_3 := blk_frozen BK255.out 3) | ((with_reducible refine gate_dst (N := 7) rfl ?_); refine boxE_ (N := 7) (cs := #[.int .i64 0, .int .i64 0, .slice none 0 0, .slice none 0 0]) (t := 30) ?_; intro gb258 hg w68 hbox hb; have n0_ := Aside0.mk (bb_ BK255.out hb); have n1_ := Aside0.mk (bb_ BK256.out hb); have n2_ := Aside0.mk (bb_ BK257.out hb); have n3_ := Aside0.mk (below_step (bl3_ HB.out GE255.out GE256.out GE257.out) hb); have n4_ := Aside0.mk (hbox); have n5_ := Aside0.mk ((bs3_ hg HB.out GE255.out GE256.out GE257.out : w.heap.size ≤ gb258)); have n6_ := Aside0.mk ((bs3_ hg HB.out GE255.out GE256.out GE257.out : w.heap.size ≤ gb258)); have n7_ := Aside0.mk ((nl_ hg BK255.out : gb255 ≠ gb258)); have n8_ := Aside0.mk ((ng_ hg BK255.out : gb258 ≠ gb255)); have n9_ := Aside0.mk ((nl_ hg BK256.out : gb256 ≠ gb258)); have n10_ := Aside0.mk ((ng_ hg BK256.out : gb258 ≠ gb256)); have n11_ := Aside0.mk ((nl_ hg BK257.out : gb257 ≠ gb258)); have n12_ := Aside0.mk ((ng_ hg BK257.out : gb258 ≠ gb257)); clear BK255; clear BK256; clear BK257; clear HB; have BK255 := n0_; have BK256 := n1_; have BK257 := n2_; have HB := n3_; have BK258 := n4_; have GW258 := n5_; have GE258 := n6_; have NB255_258 := n7_; have NB258_255 := n8_; have NB256_258 := n9_; have NB258_256 := n10_; have NB257_258 := n11_; have NB258_257 := n12_; clear n0_ n1_ n2_ n3_ n4_ n5_ n6_ n7_ n8_ n9_ n10_ n11_ n12_; clear hb hbox hg; have hnb69 := NB258_255.out; have hnc69 := NB255_258.out; have hnb70 := NB258_256.out; have hnc70 := NB256_258.out; have hnb71 := NB258_257.out; have hnc71 := NB257_258.out; have hcz72_0 : w68.cell? ⟨gb258, 0, none⟩ = some (.int .i64 0) := (blk_cell BK258.out 0).trans rfl; have hcz72_1 : w68.cell? ⟨gb258, 1, none⟩ = some (.int .i64 0) := (blk_cell BK258.out 1).trans rfl; have hcz72_2 : w68.cell? ⟨gb258, 2, none⟩ = some (.slice none 0 0) := (blk_cell BK258.out 2).trans rfl; have hcz72_3 : w68.cell? ⟨gb258, 3, none⟩ = some (.slice none 0 0) := (blk_cell BK258.out 3).trans rfl; have hfz72_0 := blk_frozen BK258.out 0; have hfz72_1 := blk_frozen BK258.out 1; have hfz72_2 := blk_frozen BK258.out 2; have hfz72_3 := blk_frozen BK258.out 3; have hnb73 := NB256_257.out; have hnc73 := NB257_256.out; have hcz74_0 : w68.cell? ⟨gb256, 0, none⟩ = some (.int .i64 a1_0) := (blk_cell BK256.out 0).trans rfl; have hcz74_1 : w68.cell? ⟨gb256, 1, none⟩ = some (.int .i64 a1_1) := (blk_cell BK256.out 1).trans rfl; have hfz74_0 := blk_frozen BK256.out 0; have hfz74_1 := blk_frozen BK256.out 1) | ((with_reducible refine gate_callee (f := 45) rfl ?_); refine goesL_ (some 45) rfl rfl Tryd.func45 (by kernel_rfl) rfl #[.agg #[.int .i64 a0_0, .int .i64 a0_1, .slice none 0 0, .slice none 0 0], .bool false, .int .i64 (wrap64 (a1_0 - 1)), .int .i64 a1_1] rfl ob_ ?_; (refine (spec_fiPut.calls k a0_0 a0_1 _ _ ([] : List Int) _ _ ([] : List Int) false (wrap64 (a1_0 - 1)) a1_1 t283 t284 t285 t288 _ ?side1 ?side2 ?side3 ?side4 A61.out).mono ?_); (case side1 => exact Kd.C_nil _ _); (case side2 => exact Nat.le_refl _); (case side3 => exact Kd.C_nil _ _); (case side4 => exact Nat.le_refl _); rintro e w75 ⟨v286, v289, rfl, ho0, ho1, hb⟩; refine ⟨_, rfl, ?_⟩; have n0_ := Aside0.mk (Kd.R_lower ho0 (below_size (bl4_ HB.out GE255.out GE256.out GE257.out GE258.out))); have n1_ := Aside0.mk (Kd.R_lower ho1 (below_size (bl4_ HB.out GE255.out GE256.out GE257.out GE258.out))); have n2_ := Aside0.mk (blk_below (g := gb255) (o := .cells #[.int .i64 a0_0, .int .i64 a0_1, .slice A0_2 l0_2.length c0_2, .slice A0_3 l0_3.length c0_3] 30 (0, 0)) (bf4_ NB255_258.out NB255_258.out NB255_258.out NB255_258.out BK255.out) hb); have n3_ := Aside0.mk (blk_below (g := gb256) (o := .cells #[.int .i64 a1_0, .int .i64 a1_1] 32 (0, 0)) (bf4_ NB256_258.out NB256_258.out NB256_258.out NB256_258.out BK256.out) hb); have n4_ := Aside0.mk (blk_below (g := gb257) (o := .cells #[.int .i64 0, .int .i64 0, .slice none 0 0, .slice none 0 0] 30 (0, 0)) (bf4_ NB257_258.out NB257_258.out NB257_258.out NB257_258.out BK257.out) hb); have n5_ := Aside0.mk (blk_below (g := gb258) (o := .cells #[.int .i64 a0_0, .int .i64 a0_1, .slice none 0 0, .slice none 0 0] 30 (0, 0)) (by (with_reducible repeat (first | refine blk_drewN ?_ _ | refine blk_drew ?_ | refine blk_alloc ?_ _)); refine blk_put (cs := #[.int .i64 a0_0, .int .i64 a0_1, .slice none 0 0, .slice none 0 0]) ?_ 3 _ rfl; (with_reducible repeat (first | refine blk_drewN ?_ _ | refine blk_drew ?_ | refine blk_alloc ?_ _)); refine blk_put (cs := #[.int .i64 a0_0, .int .i64 a0_1, .slice none 0 0, .slice none 0 0]) ?_ 2 _ rfl; (with_reducible repeat (first | refine blk_drewN ?_ _ | refine blk_drew ?_ | refine blk_alloc ?_ _)); refine blk_put (cs := #[.int .i64 a0_0, .int .i64 0, .slice none 0 0, .slice none 0 0]) ?_ 1 _ rfl; (with_reducible repeat (first | refine blk_drewN ?_ _ | refine blk_drew ?_ | refine blk_alloc ?_ _)); refine blk_put (cs := #[.int .i64 0, .int .i64 0, .slice none 0 0, .slice none 0 0]) ?_ 0 _ rfl; (with_reducible repeat (first | refine blk_drewN ?_ _ | refine blk_drew ?_ | refine blk_alloc ?_ _)); exact BK258.out) hb); have n6_ := Aside0.mk (below_step (bl4_ HB.out GE255.out GE256.out GE257.out GE258.out) hb); clear BK255; clear BK256; clear BK257; clear BK258; clear HB; have HO287 := n0_; have HO290 := n1_; have BK255 := n2_; have BK256 := n3_; have BK257 := n4_; have BK258 := n5_; have HB := n6_; clear n0_ n1_ n2_ n3_ n4_ n5_ n6_; (try clear hb); (try clear hb2); (try clear hk); (try clear hi); (try clear ho0); (try clear ho1); have hcz76_0 : w75.cell? ⟨gb257, 0, none⟩ = some (.int .i64 0) := (blk_cell BK257.out 0).trans rfl; have hcz76_1 : w75.cell? ⟨gb257, 1, none⟩ = some (.int .i64 0) := (blk_cell BK257.out 1).trans rfl; have hcz76_2 : w75.cell? ⟨gb257, 2, none⟩ = some (.slice none 0 0) := (blk_cell BK257.out 2).trans rfl; have hcz76_3 : w75.cell? ⟨gb257, 3, none⟩ = some (.slice none 0 0) := (blk_cell BK257.out 3).trans rfl; have hfz76_0 := blk_frozen BK257.out 0; have hfz76_1 := blk_frozen BK257.out 1; have hfz76_2 := blk_frozen BK257.out 2; have hfz76_3 := blk_frozen BK257.out 3; obtain ⟨Ao77, co77, eo77⟩ := Kd.R_slice HO287.out; subst eo77; obtain ⟨Ao78, co78, eo78⟩ := Kd.R_slice HO290.out; subst eo78))
    refine bodyPost_ret (results_cell_row rfl _ _ gb257 30 #[.int .i64 t283, .int .i64 t284, .slice Ao77 t285.length co77, .slice Ao78 t288.length co78] (0, 0) _ rfl (by (with_reducible repeat (first | refine blk_drewN ?_ _ | refine blk_drew ?_ | refine blk_alloc ?_ _)); refine blk_put (cs := #[.int .i64 t283, .int .i64 t284, .slice Ao77 t285.length co77, .slice none 0 0]) ?_ 3 _ rfl; (with_reducible repeat (first | refine blk_drewN ?_ _ | refine blk_drew ?_ | refine blk_alloc ?_ _)); refine blk_put (cs := #[.int .i64 t283, .int .i64 t284, .slice none 0 0, .slice none 0 0]) ?_ 2 _ rfl; (with_reducible repeat (first | refine blk_drewN ?_ _ | refine blk_drew ?_ | refine blk_alloc ?_ _)); refine blk_put (cs := #[.int .i64 t283, .int .i64 0, .slice none 0 0, .slice none 0 0]) ?_ 1 _ rfl; (with_reducible repeat (first | refine blk_drewN ?_ _ | refine blk_drew ?_ | refine blk_alloc ?_ _)); refine blk_put (cs := #[.int .i64 0, .int .i64 0, .slice none 0 0, .slice none 0 0]) ?_ 0 _ rfl; (with_reducible repeat (first | refine blk_drewN ?_ _ | refine blk_drew ?_ | refine blk_alloc ?_ _)); exact BK257.out) Tryd.underlying30 rfl (by kernel_rfl)) rfl ?_
    exact ⟨_, _, er_, by (with_reducible repeat (first | apply Kd.R_alloc | apply Kd.R_drewN | apply Kd.R_drew)); exact Kd.R_mono (Kd.R_far (p := ⟨gb257, 3, none⟩) (Kd.R_far (p := ⟨gb257, 2, none⟩) (Kd.R_far (p := ⟨gb257, 1, none⟩) (Kd.R_far (p := ⟨gb257, 0, none⟩) (Kd.R_types HO287.out BK257.out (by decide)) (fun _ hk => hk.2) (.int .i64 t283)) (fun _ hk => hk.2) (.int .i64 t284)) (fun _ hk => hk.2) (.slice Ao77 t285.length co77)) (fun _ hk => hk.2) (.slice Ao78 t288.length co78)) (fun _ hk => hk.1), by (with_reducible repeat (first | apply Kd.R_alloc | apply Kd.R_drewN | apply Kd.R_drew)); exact Kd.R_mono (Kd.R_far (p := ⟨gb257, 3, none⟩) (Kd.R_far (p := ⟨gb257, 2, none⟩) (Kd.R_far (p := ⟨gb257, 1, none⟩) (Kd.R_far (p := ⟨gb257, 0, none⟩) (Kd.R_types HO290.out BK257.out (by decide)) (fun _ hk => hk.2) (.int .i64 t283)) (fun _ hk => hk.2) (.int .i64 t284)) (fun _ hk => hk.2) (.slice Ao77 t285.length co77)) (fun _ hk => hk.2) (.slice Ao78 t288.length co78)) (fun _ hk => hk.1), bl4_ HB.out GE255.out GE256.out GE257.out GE258.out⟩


mutual
def spec_liDraw.l0 : Nat → ByteArray → Int → Int → Int → Int → Int → List Int → List Int → Int → Int → List Int → List Int → Option (Int × Int × List Int × List Int × Bool)
 | 0, _, _, _, _, _, _, _, _, _, _, _, _ => none
 | k + 1, x3, x12, x292000, x292001, x302000, x302001, x302002, x302003, x303000, x303001, x303002, x303003 => if x12 < (x3.size : Int) then (spec_liDraw.l1 k x3 x12 (-1) 0 x292000 x292001 x302000 x302001 x302002 x302003 x303000 x303001 x303002 x303003) else (some (x303000, x303001, x303002, x303003, true))
def spec_liDraw.l1 : Nat → ByteArray → Int → Int → Int → Int → Int → Int → Int → List Int → List Int → Int → Int → List Int → List Int → Option (Int × Int × List Int × List Int × Bool)
 | 0, _, _, _, _, _, _, _, _, _, _, _, _, _, _ => none
 | k + 1, x3, x12, x13, x14, x292000, x292001, x302000, x302001, x302002, x302003, x303000, x303001, x303002, x303003 => if x14 < 4 then (if 0 ≤ x12 then (if x12 < (x3.size : Int) then ((spec_liDirs.f).bind fun t303 => (if 0 ≤ x14 then (if x14 < (t303.size : Int) then (if (bt x3 x12) = (bt t303 x14) then (spec_liDraw.l1 k x3 x12 x14 (wrap64 (x14 + 1)) x292000 x292001 x302000 x302001 x302002 x302003 x303000 x303001 x303002 x303003) else (spec_liDraw.l1 k x3 x12 x13 (wrap64 (x14 + 1)) x292000 x292001 x302000 x302001 x302002 x302003 x303000 x303001 x303002 x303003)) else (none)) else (none))) else (none)) else (none)) else (if x13 < 0 then (some (0, 0, ([] : List Int), ([] : List Int), false)) else ((spec_liNext.f k x302000 x302001 x302002 x302003 x292000 x292001 x13).bind fun bt304 => (if bt304.2.2 = true then ((spec_liNext.f k x303000 x303001 x303002 x303003 x292000 x292001 x13).bind fun bt308 => (if bt308.2.2 = true then (some (0, 0, ([] : List Int), ([] : List Int), false)) else ((spec_fiMissing.f k x303000 x303001 x303002 x303003).bind fun bt312 => ((spec_liEdge.f k x302000 x302001 x302002 x302003 x292000 x292001 x13).bind fun bt320 => ((spec_fiLess.f k bt312.1 bt312.2.1 bt312.2.2.1 bt312.2.2.2 bt320.1 bt320.2.1 bt320.2.2.1 bt320.2.2.2).bind fun bt328 => ((spec_fiMissing.f k bt328.1 bt328.2.1 bt328.2.2.1 bt328.2.2.2).bind fun bt336 => (spec_liDraw.l0 k x3 (wrap64 (x12 + 1)) bt304.1 bt304.2.1 x302000 x302001 x302002 x302003 bt336.1 bt336.2.1 bt336.2.2.1 bt336.2.2.2))))))) else (some (0, 0, ([] : List Int), ([] : List Int), false)))))
end
def spec_liDraw.f (k : Nat) (a0 : Int) (a1 : Int) (a2_0 : Int) (a2_1 : Int) (a3 : ByteArray) : Option (Int × Int × List Int × List Int × Bool) := (spec_fiFull.f k a0 a1).bind fun bt293 => (spec_liDraw.l0 k a3 0 a2_0 a2_1 bt293.1 bt293.2.1 bt293.2.2.1 bt293.2.2.2 a0 a1 ([] : List Int) ([] : List Int))
theorem spec_liDraw.mono_l : ∀ k, (∀ y0 y1 y2 y3 y4 y5 y6 y7 y8 y9 y10 y11, LeO (spec_liDraw.l0 k y0 y1 y2 y3 y4 y5 y6 y7 y8 y9 y10 y11) (spec_liDraw.l0 (k + 1) y0 y1 y2 y3 y4 y5 y6 y7 y8 y9 y10 y11)) ∧ (∀ y0 y1 y2 y3 y4 y5 y6 y7 y8 y9 y10 y11 y12 y13, LeO (spec_liDraw.l1 k y0 y1 y2 y3 y4 y5 y6 y7 y8 y9 y10 y11 y12 y13) (spec_liDraw.l1 (k + 1) y0 y1 y2 y3 y4 y5 y6 y7 y8 y9 y10 y11 y12 y13))
 | 0 => ⟨fun _ _ _ _ _ _ _ _ _ _ _ _ r h => by simp [spec_liDraw.l0] at h, fun _ _ _ _ _ _ _ _ _ _ _ _ _ _ r h => by simp [spec_liDraw.l1] at h⟩
 | k + 1 => by
  obtain ⟨ih0, ih1⟩ := spec_liDraw.mono_l k
  refine ⟨?_, ?_⟩
  ·intro y0 y1 y2 y3 y4 y5 y6 y7 y8 y9 y10 y11
   unfold spec_liDraw.l0
   repeat' first
   | (with_reducible exact ih0 _ _ _ _ _ _ _ _ _ _ _ _)
   | (with_reducible exact ih1 _ _ _ _ _ _ _ _ _ _ _ _ _ _)
   | (with_reducible exact spec_fiFull.mono _ _ _)
   | (with_reducible exact spec_fiLess.mono _ _ _ _ _ _ _ _ _)
   | (with_reducible exact spec_fiMissing.mono _ _ _ _ _)
   | (with_reducible exact spec_liEdge.mono _ _ _ _ _ _ _ _)
   | (with_reducible exact spec_liNext.mono _ _ _ _ _ _ _ _)
   | (with_reducible exact LeO.refl _)
   | (with_reducible exact LeO.none _)
   | (with_reducible refine LeO.ite ?_ ?_)
   | (with_reducible refine LeO.bind ?_ (fun _ => ?_))
   | exact ih0 _ _ _ _ _ _ _ _ _ _ _ _
   | exact ih1 _ _ _ _ _ _ _ _ _ _ _ _ _ _
   | exact spec_fiFull.mono _ _ _
   | exact spec_fiLess.mono _ _ _ _ _ _ _ _ _
   | exact spec_fiMissing.mono _ _ _ _ _
   | exact spec_liEdge.mono _ _ _ _ _ _ _ _
   | exact spec_liNext.mono _ _ _ _ _ _ _ _
   | exact LeO.none _
   | refine LeO.ite ?_ ?_
   | refine LeO.bind ?_ (fun _ => ?_)
  ·intro y0 y1 y2 y3 y4 y5 y6 y7 y8 y9 y10 y11 y12 y13
   unfold spec_liDraw.l1
   repeat' first
   | (with_reducible exact ih0 _ _ _ _ _ _ _ _ _ _ _ _)
   | (with_reducible exact ih1 _ _ _ _ _ _ _ _ _ _ _ _ _ _)
   | (with_reducible exact spec_fiFull.mono _ _ _)
   | (with_reducible exact spec_fiLess.mono _ _ _ _ _ _ _ _ _)
   | (with_reducible exact spec_fiMissing.mono _ _ _ _ _)
   | (with_reducible exact spec_liEdge.mono _ _ _ _ _ _ _ _)
   | (with_reducible exact spec_liNext.mono _ _ _ _ _ _ _ _)
   | (with_reducible exact LeO.refl _)
   | (with_reducible exact LeO.none _)
   | (with_reducible refine LeO.ite ?_ ?_)
   | (with_reducible refine LeO.bind ?_ (fun _ => ?_))
   | exact ih0 _ _ _ _ _ _ _ _ _ _ _ _
   | exact ih1 _ _ _ _ _ _ _ _ _ _ _ _ _ _
   | exact spec_fiFull.mono _ _ _
   | exact spec_fiLess.mono _ _ _ _ _ _ _ _ _
   | exact spec_fiMissing.mono _ _ _ _ _
   | exact spec_liEdge.mono _ _ _ _ _ _ _ _
   | exact spec_liNext.mono _ _ _ _ _ _ _ _
   | exact LeO.none _
   | refine LeO.ite ?_ ?_
   | refine LeO.bind ?_ (fun _ => ?_)
theorem spec_liDraw.mono : ∀ a0 a1 a2 a3 a4 k, LeO (spec_liDraw.f k a0 a1 a2 a3 a4) (spec_liDraw.f (k + 1) a0 a1 a2 a3 a4) := by
 intro a0 a1 a2 a3 a4 k
 obtain ⟨ih0, ih1⟩ := spec_liDraw.mono_l k
 unfold spec_liDraw.f
 repeat' first
   | (with_reducible exact ih0 _ _ _ _ _ _ _ _ _ _ _ _)
   | (with_reducible exact ih1 _ _ _ _ _ _ _ _ _ _ _ _ _ _)
   | (with_reducible exact spec_fiFull.mono _ _ _)
   | (with_reducible exact spec_fiLess.mono _ _ _ _ _ _ _ _ _)
   | (with_reducible exact spec_fiMissing.mono _ _ _ _ _)
   | (with_reducible exact spec_liEdge.mono _ _ _ _ _ _ _ _)
   | (with_reducible exact spec_liNext.mono _ _ _ _ _ _ _ _)
   | (with_reducible exact LeO.refl _)
   | (with_reducible exact LeO.none _)
   | (with_reducible refine LeO.ite ?_ ?_)
   | (with_reducible refine LeO.bind ?_ (fun _ => ?_))
   | exact ih0 _ _ _ _ _ _ _ _ _ _ _ _
   | exact ih1 _ _ _ _ _ _ _ _ _ _ _ _ _ _
   | exact spec_fiFull.mono _ _ _
   | exact spec_fiLess.mono _ _ _ _ _ _ _ _ _
   | exact spec_fiMissing.mono _ _ _ _ _
   | exact spec_liEdge.mono _ _ _ _ _ _ _ _
   | exact spec_liNext.mono _ _ _ _ _ _ _ _
   | exact LeO.none _
   | refine LeO.ite ?_ ?_
   | refine LeO.bind ?_ (fun _ => ?_)
def spec_liDraw.T20 : Bool × List (List Nat × List Nat) := (true, [([], []), ([0], [0]), ([], []), ([], []), ([], []), ([2, 3, 4, 1], [2, 3, 4]), ([1, 5, 5], [1, 5]), ([6, 6], [6]), ([7, 7, 0, 1, 2, 3, 4, 5, 6, 7], [7])])
def spec_liDraw.B20 : List Nat := [0, 1, 0, 0, 0, 31, 63, 127, 255]
theorem spec_liDraw.tab20 : rtab .any (opsOf Tryd.f13 20) = spec_liDraw.T20 := by kernel_rfl
theorem spec_liDraw.bits20 : waitsOk spec_liDraw.T20.2 spec_liDraw.B20 = true := by kernel_rfl
set_option maxHeartbeats 8000000 in
set_option maxRecDepth 100000 in
theorem spec_liDraw.calls (k : Nat) (a0 : Int) (a1 : Int) (a2_0 : Int) (a2_1 : Int) (a3 : ByteArray) (r1 : Int) (r2 : Int) (r3 : List Int) (r4 : List Int) (r5 : Bool) (w : World) (h : spec_liDraw.f k a0 a1 a2_0 a2_1 a3 = some (r1, r2, r3, r4, r5)) :
  Calls Tryd.prog 13 #[.int .i64 a0, .int .i64 a1, .agg #[.int .i64 a2_0, .int .i64 a2_1], .string a3] w fun e w' => ∃ v2_ v3_ : Value, e = .returned (.tuple #[.agg #[.int .i64 r1, .int .i64 r2, v2_, v3_], .bool r5]) ∧ Kd.R (Kd.int .i64) 3 w' w.heap.size (fun k_ => some k_ ≠ (v3_ : Value).ownBlock) v2_ r3 ∧ Kd.R (Kd.int .i64) 3 w' w.heap.size (fun k_ => some k_ ≠ (v2_ : Value).ownBlock) v3_ r4 ∧ Below w.heap.size w w' := by
 have hu32 := Tryd.underlying32
 have hu30 := Tryd.underlying30
 have HB := Aside0.mk (Below.refl w.heap.size w)
 have H : ((spec_fiFull.f k a0 a1).bind fun bt293 => (spec_liDraw.l0 k a3 0 a2_0 a2_1 bt293.1 bt293.2.1 bt293.2.2.1 bt293.2.2.2 a0 a1 ([] : List Int) ([] : List Int))) = some (r1, r2, r3, r4, r5) := h
 clear h
 replace H := Option.bind_eq_some_iff.mp H
 obtain ⟨⟨t293, t294, t295, t298⟩, A50, H⟩ := H
 replace H : (spec_liDraw.l0 k a3 0 a2_0 a2_1 t293 t294 t295 t298 a0 a1 ([] : List Int) ([] : List Int)) = some (r1, r2, r3, r4, r5) := H
 have A5 := Aside0.mk A50
 clear A50
 have H' := Aside0.mk H
 clear H
 go_enter Tryd.func13, Tryd.ntmps13
 go_wp2_with (first | ((with_reducible refine gate_dst (N := 6) rfl ?_); refine boxE_ (N := 6) (cs := #[.int .i64 a2_0, .int .i64 a2_1]) (t := 32) ?_; intro gb291 hg w6 hbox hb; have n0_ := Aside0.mk (below_step (bl0_ HB.out) hb); have n1_ := Aside0.mk (hbox); have n2_ := Aside0.mk ((bs0_ hg HB.out : w.heap.size ≤ gb291)); have n3_ := Aside0.mk ((bs0_ hg HB.out : w.heap.size ≤ gb291)); clear HB; have HB := n0_; have BK291 := n1_; have GW291 := n2_; have GE291 := n3_; clear n0_ n1_ n2_ n3_; clear hb hbox hg) | ((with_reducible refine gate_dst (N := 8) rfl ?_); refine boxE_ (N := 8) (cs := #[.int .i64 0, .int .i64 0, .slice none 0 0, .slice none 0 0]) (t := 30) ?_; intro gb292 hg w7 hbox hb; have n0_ := Aside0.mk (bb_ BK291.out hb); have n1_ := Aside0.mk (below_step (bl1_ HB.out GE291.out) hb); have n2_ := Aside0.mk (hbox); have n3_ := Aside0.mk ((bs1_ hg HB.out GE291.out : w.heap.size ≤ gb292)); have n4_ := Aside0.mk ((bs1_ hg HB.out GE291.out : w.heap.size ≤ gb292)); have n5_ := Aside0.mk ((nl_ hg BK291.out : gb291 ≠ gb292)); have n6_ := Aside0.mk ((ng_ hg BK291.out : gb292 ≠ gb291)); clear BK291; clear HB; have BK291 := n0_; have HB := n1_; have BK292 := n2_; have GW292 := n3_; have GE292 := n4_; have NB291_292 := n5_; have NB292_291 := n6_; clear n0_ n1_ n2_ n3_ n4_ n5_ n6_; clear hb hbox hg) | ((with_reducible refine gate_callee (f := 25) rfl ?_); refine goesL_ (some 21) rfl rfl Tryd.func25 (by kernel_rfl) rfl #[.int .i64 a0, .int .i64 a1] rfl ob_ ?_; (with_reducible refine (spec_fiFull.calls k a0 a1 t293 t294 t295 t298 _ A5.out).mono ?_); rintro e w8 ⟨v296, v299, rfl, ho0, ho1, hb⟩; refine ⟨_, rfl, ?_⟩; have n0_ := Aside0.mk (Kd.R_lower ho0 (below_size (bl2_ HB.out GE291.out GE292.out))); have n1_ := Aside0.mk (Kd.R_lower ho1 (below_size (bl2_ HB.out GE291.out GE292.out))); have n2_ := Aside0.mk (bb_ BK291.out hb); have n3_ := Aside0.mk (bb_ BK292.out hb); have n4_ := Aside0.mk (below_step (bl2_ HB.out GE291.out GE292.out) hb); clear BK291; clear BK292; clear HB; have HO297 := n0_; have HO300 := n1_; have BK291 := n2_; have BK292 := n3_; have HB := n4_; clear n0_ n1_ n2_ n3_ n4_; (try clear hb); (try clear hb2); (try clear hk); (try clear hi); (try clear ho0); (try clear ho1)) | ((with_reducible refine gate_dst (N := 10) rfl ?_); refine boxE_ (N := 10) (cs := #[.int .i64 0, .int .i64 0, .slice none 0 0, .slice none 0 0]) (t := 30) ?_; intro gb301 hg w9 hbox hb; have n0_ := Aside0.mk (Kd.R_below (kr_ HO297.out) hb); have n1_ := Aside0.mk (Kd.R_below (kr_ HO300.out) hb); have n2_ := Aside0.mk (bb_ BK291.out hb); have n3_ := Aside0.mk (bb_ BK292.out hb); have n4_ := Aside0.mk (below_step (bl2_ HB.out GE291.out GE292.out) hb); have n5_ := Aside0.mk (hbox); have n6_ := Aside0.mk ((bs2_ hg HB.out GE291.out GE292.out : w.heap.size ≤ gb301)); have n7_ := Aside0.mk ((bs2_ hg HB.out GE291.out GE292.out : w.heap.size ≤ gb301)); have n8_ := Aside0.mk ((nl_ hg BK291.out : gb291 ≠ gb301)); have n9_ := Aside0.mk ((ng_ hg BK291.out : gb301 ≠ gb291)); have n10_ := Aside0.mk ((nl_ hg BK292.out : gb292 ≠ gb301)); have n11_ := Aside0.mk ((ng_ hg BK292.out : gb301 ≠ gb292)); clear HO297; clear HO300; clear BK291; clear BK292; clear HB; have HO297 := n0_; have HO300 := n1_; have BK291 := n2_; have BK292 := n3_; have HB := n4_; have BK301 := n5_; have GW301 := n6_; have GE301 := n7_; have NB291_301 := n8_; have NB301_291 := n9_; have NB292_301 := n10_; have NB301_292 := n11_; clear n0_ n1_ n2_ n3_ n4_ n5_ n6_ n7_ n8_ n9_ n10_ n11_; clear hb hbox hg; have hnb10 := NB301_291.out; have hnc10 := NB291_301.out; have hnb11 := NB301_292.out; have hnc11 := NB292_301.out; have hcz12_0 : w9.cell? ⟨gb301, 0, none⟩ = some (.int .i64 0) := (blk_cell BK301.out 0).trans rfl; have hcz12_1 : w9.cell? ⟨gb301, 1, none⟩ = some (.int .i64 0) := (blk_cell BK301.out 1).trans rfl; have hcz12_2 : w9.cell? ⟨gb301, 2, none⟩ = some (.slice none 0 0) := (blk_cell BK301.out 2).trans rfl; have hcz12_3 : w9.cell? ⟨gb301, 3, none⟩ = some (.slice none 0 0) := (blk_cell BK301.out 3).trans rfl; have hfz12_0 := blk_frozen BK301.out 0; have hfz12_1 := blk_frozen BK301.out 1; have hfz12_2 := blk_frozen BK301.out 2; have hfz12_3 := blk_frozen BK301.out 3; obtain ⟨Ao13, co13, eo13⟩ := Kd.R_slice HO297.out; subst eo13; obtain ⟨Ao14, co14, eo14⟩ := Kd.R_slice HO300.out; subst eo14) | ((with_reducible refine gate_dst (N := 11) rfl ?_); refine boxE_ (N := 11) (cs := #[.int .i64 0, .int .i64 0, .slice none 0 0, .slice none 0 0]) (t := 30) ?_; intro gb302 hg w15 hbox hb; have n0_ := Aside0.mk (Kd.R_below (by (with_reducible repeat (first | apply Kd.R_alloc | apply Kd.R_drewN | apply Kd.R_drew)); exact (Kd.R_mono (Kd.R_far (p := ⟨gb301, 3, none⟩) (Kd.R_far (p := ⟨gb301, 2, none⟩) (Kd.R_far (p := ⟨gb301, 1, none⟩) (Kd.R_far (p := ⟨gb301, 0, none⟩) (Kd.R_types HO297.out BK301.out (by decide)) (fun _ hk => hk.2) (.int .i64 t293)) (fun _ hk => hk.2) (.int .i64 t294)) (fun _ hk => hk.2) (.slice Ao13 t295.length co13)) (fun _ hk => hk.2) (.slice Ao14 t298.length co14)) (fun _ h_ => h_.1))) hb); have n1_ := Aside0.mk (Kd.R_below (by (with_reducible repeat (first | apply Kd.R_alloc | apply Kd.R_drewN | apply Kd.R_drew)); exact (Kd.R_mono (Kd.R_far (p := ⟨gb301, 3, none⟩) (Kd.R_far (p := ⟨gb301, 2, none⟩) (Kd.R_far (p := ⟨gb301, 1, none⟩) (Kd.R_far (p := ⟨gb301, 0, none⟩) (Kd.R_types HO300.out BK301.out (by decide)) (fun _ hk => hk.2) (.int .i64 t293)) (fun _ hk => hk.2) (.int .i64 t294)) (fun _ hk => hk.2) (.slice Ao13 t295.length co13)) (fun _ hk => hk.2) (.slice Ao14 t298.length co14)) (fun _ h_ => h_.1))) hb); have n2_ := Aside0.mk (blk_below (g := gb291) (o := .cells #[.int .i64 a2_0, .int .i64 a2_1] 32 (0, 0)) (bf4_ NB291_301.out NB291_301.out NB291_301.out NB291_301.out BK291.out) hb); have n3_ := Aside0.mk (blk_below (g := gb292) (o := .cells #[.int .i64 0, .int .i64 0, .slice none 0 0, .slice none 0 0] 30 (0, 0)) (bf4_ NB292_301.out NB292_301.out NB292_301.out NB292_301.out BK292.out) hb); have n4_ := Aside0.mk (blk_below (g := gb301) (o := .cells #[.int .i64 t293, .int .i64 t294, .slice Ao13 t295.length co13, .slice Ao14 t298.length co14] 30 (0, 0)) (by (with_reducible repeat (first | refine blk_drewN ?_ _ | refine blk_drew ?_ | refine blk_alloc ?_ _)); refine blk_put (cs := #[.int .i64 t293, .int .i64 t294, .slice Ao13 t295.length co13, .slice none 0 0]) ?_ 3 _ rfl; (with_reducible repeat (first | refine blk_drewN ?_ _ | refine blk_drew ?_ | refine blk_alloc ?_ _)); refine blk_put (cs := #[.int .i64 t293, .int .i64 t294, .slice none 0 0, .slice none 0 0]) ?_ 2 _ rfl; (with_reducible repeat (first | refine blk_drewN ?_ _ | refine blk_drew ?_ | refine blk_alloc ?_ _)); refine blk_put (cs := #[.int .i64 t293, .int .i64 0, .slice none 0 0, .slice none 0 0]) ?_ 1 _ rfl; (with_reducible repeat (first | refine blk_drewN ?_ _ | refine blk_drew ?_ | refine blk_alloc ?_ _)); refine blk_put (cs := #[.int .i64 0, .int .i64 0, .slice none 0 0, .slice none 0 0]) ?_ 0 _ rfl; (with_reducible repeat (first | refine blk_drewN ?_ _ | refine blk_drew ?_ | refine blk_alloc ?_ _)); exact BK301.out) hb); have n5_ := Aside0.mk (below_step (bl3_ HB.out GE291.out GE292.out GE301.out) hb); have n6_ := Aside0.mk (hbox); have n7_ := Aside0.mk ((bs3_ hg HB.out GE291.out GE292.out GE301.out : w.heap.size ≤ gb302)); have n8_ := Aside0.mk ((bs3_ hg HB.out GE291.out GE292.out GE301.out : w.heap.size ≤ gb302)); have n9_ := Aside0.mk ((by rw [hg]; exact Nat.ne_of_lt (blk_lt (g := gb291) (o := .cells #[.int .i64 a2_0, .int .i64 a2_1] 32 (0, 0)) (bf4_ NB291_301.out NB291_301.out NB291_301.out NB291_301.out BK291.out)) : gb291 ≠ gb302)); have n10_ := Aside0.mk ((by rw [hg]; exact Nat.ne_of_gt (blk_lt (g := gb291) (o := .cells #[.int .i64 a2_0, .int .i64 a2_1] 32 (0, 0)) (bf4_ NB291_301.out NB291_301.out NB291_301.out NB291_301.out BK291.out)) : gb302 ≠ gb291)); have n11_ := Aside0.mk ((by rw [hg]; exact Nat.ne_of_lt (blk_lt (g := gb292) (o := .cells #[.int .i64 0, .int .i64 0, .slice none 0 0, .slice none 0 0] 30 (0, 0)) (bf4_ NB292_301.out NB292_301.out NB292_301.out NB292_301.out BK292.out)) : gb292 ≠ gb302)); have n12_ := Aside0.mk ((by rw [hg]; exact Nat.ne_of_gt (blk_lt (g := gb292) (o := .cells #[.int .i64 0, .int .i64 0, .slice none 0 0, .slice none 0 0] 30 (0, 0)) (bf4_ NB292_301.out NB292_301.out NB292_301.out NB292_301.out BK292.out)) : gb302 ≠ gb292)); have n13_ := Aside0.mk ((by rw [hg]; exact Nat.ne_of_lt (blk_lt (g := gb301) (o := .cells #[.int .i64 t293, .int .i64 t294, .slice Ao13 t295.length co13, .slice Ao14 t298.length co14] 30 (0, 0)) (by (with_reducible repeat (first | refine blk_drewN ?_ _ | refine blk_drew ?_ | refine blk_alloc ?_ _)); refine blk_put (cs := #[.int .i64 t293, .int .i64 t294, .slice Ao13 t295.length co13, .slice none 0 0]) ?_ 3 _ rfl; (with_reducible repeat (first | refine blk_drewN ?_ _ | refine blk_drew ?_ | refine blk_alloc ?_ _)); refine blk_put (cs := #[.int .i64 t293, .int .i64 t294, .slice none 0 0, .slice none 0 0]) ?_ 2 _ rfl; (with_reducible repeat (first | refine blk_drewN ?_ _ | refine blk_drew ?_ | refine blk_alloc ?_ _)); refine blk_put (cs := #[.int .i64 t293, .int .i64 0, .slice none 0 0, .slice none 0 0]) ?_ 1 _ rfl; (with_reducible repeat (first | refine blk_drewN ?_ _ | refine blk_drew ?_ | refine blk_alloc ?_ _)); refine blk_put (cs := #[.int .i64 0, .int .i64 0, .slice none 0 0, .slice none 0 0]) ?_ 0 _ rfl; (with_reducible repeat (first | refine blk_drewN ?_ _ | refine blk_drew ?_ | refine blk_alloc ?_ _)); exact BK301.out)) : gb301 ≠ gb302)); have n14_ := Aside0.mk ((by rw [hg]; exact Nat.ne_of_gt (blk_lt (g := gb301) (o := .cells #[.int .i64 t293, .int .i64 t294, .slice Ao13 t295.length co13, .slice Ao14 t298.length co14] 30 (0, 0)) (by (with_reducible repeat (first | refine blk_drewN ?_ _ | refine blk_drew ?_ | refine blk_alloc ?_ _)); refine blk_put (cs := #[.int .i64 t293, .int .i64 t294, .slice Ao13 t295.length co13, .slice none 0 0]) ?_ 3 _ rfl; (with_reducible repeat (first | refine blk_drewN ?_ _ | refine blk_drew ?_ | refine blk_alloc ?_ _)); refine blk_put (cs := #[.int .i64 t293, .int .i64 t294, .slice none 0 0, .slice none 0 0]) ?_ 2 _ rfl; (with_reducible repeat (first | refine blk_drewN ?_ _ | refine blk_drew ?_ | refine blk_alloc ?_ _)); refine blk_put (cs := #[.int .i64 t293, .int .i64 0, .slice none 0 0, .slice none 0 0]) ?_ 1 _ rfl; (with_reducible repeat (first | refine blk_drewN ?_ _ | refine blk_drew ?_ | refine blk_alloc ?_ _)); refine blk_put (cs := #[.int .i64 0, .int .i64 0, .slice none 0 0, .slice none 0 0]) ?_ 0 _ rfl; (with_reducible repeat (first | refine blk_drewN ?_ _ | refine blk_drew ?_ | refine blk_alloc ?_ _)); exact BK301.out)) : gb302 ≠ gb301)); clear HO297; clear HO300; clear BK291; clear BK292; clear BK301; clear HB; have HO297 := n0_; have HO300 := n1_; have BK291 := n2_; have BK292 := n3_; have BK301 := n4_; have HB := n5_; have BK302 := n6_; have GW302 := n7_; have GE302 := n8_; have NB291_302 := n9_; have NB302_291 := n10_; have NB292_302 := n11_; have NB302_292 := n12_; have NB301_302 := n13_; have NB302_301 := n14_; clear n0_ n1_ n2_ n3_ n4_ n5_ n6_ n7_ n8_ n9_ n10_ n11_ n12_ n13_ n14_; clear hb hbox hg; have hnb16 := NB302_291.out; have hnc16 := NB291_302.out; have hnb17 := NB302_292.out; have hnc17 := NB292_302.out; have hnb18 := NB302_301.out; have hnc18 := NB301_302.out; have hcz19_0 : w15.cell? ⟨gb302, 0, none⟩ = some (.int .i64 0) := (blk_cell BK302.out 0).trans rfl; have hcz19_1 : w15.cell? ⟨gb302, 1, none⟩ = some (.int .i64 0) := (blk_cell BK302.out 1).trans rfl; have hcz19_2 : w15.cell? ⟨gb302, 2, none⟩ = some (.slice none 0 0) := (blk_cell BK302.out 2).trans rfl; have hcz19_3 : w15.cell? ⟨gb302, 3, none⟩ = some (.slice none 0 0) := (blk_cell BK302.out 3).trans rfl; have hfz19_0 := blk_frozen BK302.out 0; have hfz19_1 := blk_frozen BK302.out 1; have hfz19_2 := blk_frozen BK302.out 2; have hfz19_3 := blk_frozen BK302.out 3))
 go_loopg [12] k (fun kq v12 w' => ∃ (x12_1 : Int) (x292000_1 : Int) (x292001_1 : Int) (x293000_1 : Int) (x293001_1 : Int) (x303000_1 : Int) (x303001_1 : Int) (x303002_1 : List Int) (x303003_1 : List Int) (u303002 : Value) (u303003 : Value), v12 = .int .i64 x12_1 ∧ Aside0 (spec_liDraw.l0 kq a3 x12_1 x292000_1 x292001_1 t293 t294 t295 t298 x303000_1 x303001_1 x303002_1 x303003_1 = some (r1, r2, r3, r4, r5)) ∧ Aside0 (kq ≤ k) ∧ Aside0 (Kd.R (Kd.int .i64) 3 w' w.heap.size (fun k_ => some k_ ≠ ((.slice Ao14 t298.length co14) : Value).ownBlock ∧ some k_ ≠ (u303002 : Value).ownBlock ∧ some k_ ≠ (u303003 : Value).ownBlock) (.slice Ao13 t295.length co13) t295) ∧ Aside0 (Kd.R (Kd.int .i64) 3 w' w.heap.size (fun k_ => some k_ ≠ ((.slice Ao13 t295.length co13) : Value).ownBlock ∧ some k_ ≠ (u303002 : Value).ownBlock ∧ some k_ ≠ (u303003 : Value).ownBlock) (.slice Ao14 t298.length co14) t298) ∧ Aside0 (Kd.R (Kd.int .i64) 3 w' w.heap.size (fun k_ => some k_ ≠ ((.slice Ao13 t295.length co13) : Value).ownBlock ∧ some k_ ≠ ((.slice Ao14 t298.length co14) : Value).ownBlock ∧ some k_ ≠ (u303003 : Value).ownBlock) u303002 x303002_1) ∧ Aside0 (Kd.R (Kd.int .i64) 3 w' w.heap.size (fun k_ => some k_ ≠ ((.slice Ao13 t295.length co13) : Value).ownBlock ∧ some k_ ≠ ((.slice Ao14 t298.length co14) : Value).ownBlock ∧ some k_ ≠ (u303002 : Value).ownBlock) u303003 x303003_1) ∧ Aside0 (w'.heap[gb291]? = some (.cells #[.int .i64 x292000_1, .int .i64 x292001_1] 32 (0, 0))) ∧ Aside0 (w'.heap[gb292]? = some (.cells #[.int .i64 x293000_1, .int .i64 x293001_1, (.slice none 0 0), (.slice none 0 0)] 30 (0, 0))) ∧ Aside0 (w'.heap[gb301]? = some (.cells #[.int .i64 t293, .int .i64 t294, (.slice Ao13 t295.length co13), (.slice Ao14 t298.length co14)] 30 (0, 0))) ∧ Aside0 (w'.heap[gb302]? = some (.cells #[.int .i64 x303000_1, .int .i64 x303001_1, u303002, u303003] 30 (0, 0))) ∧ Aside0 (Below w.heap.size w w'))
 case atStart => exact ⟨(0), (a2_0), (a2_1), (0), (0), (a0), (a1), (([] : List Int)), (([] : List Int)), (.slice none 0 0), (.slice none 0 0), rs_, H', ⟨Nat.le_refl _⟩, ⟨by (with_reducible repeat (first | apply Kd.R_alloc | apply Kd.R_drewN | apply Kd.R_drew)); exact Kd.R_mono (Kd.R_far (p := ⟨gb302, 3, none⟩) (Kd.R_far (p := ⟨gb302, 2, none⟩) (Kd.R_far (p := ⟨gb302, 1, none⟩) (Kd.R_far (p := ⟨gb302, 0, none⟩) (Kd.R_types HO297.out BK302.out (by decide)) (fun _ hk => hk.2) (.int .i64 a0)) (fun _ hk => hk.2) (.int .i64 a1)) (fun _ hk => hk.2) (.slice none 0 0)) (fun _ hk => hk.2) (.slice none 0 0)) (fun _ hk => ⟨hk.1, ⟨(by simp [Value.ownBlock]), (by simp [Value.ownBlock])⟩⟩)⟩, ⟨by (with_reducible repeat (first | apply Kd.R_alloc | apply Kd.R_drewN | apply Kd.R_drew)); exact Kd.R_mono (Kd.R_far (p := ⟨gb302, 3, none⟩) (Kd.R_far (p := ⟨gb302, 2, none⟩) (Kd.R_far (p := ⟨gb302, 1, none⟩) (Kd.R_far (p := ⟨gb302, 0, none⟩) (Kd.R_types HO300.out BK302.out (by decide)) (fun _ hk => hk.2) (.int .i64 a0)) (fun _ hk => hk.2) (.int .i64 a1)) (fun _ hk => hk.2) (.slice none 0 0)) (fun _ hk => hk.2) (.slice none 0 0)) (fun _ hk => ⟨hk.1, ⟨(by simp [Value.ownBlock]), (by simp [Value.ownBlock])⟩⟩)⟩, ⟨by first | exact Kd.R_nil _ _ _ _ _ | exact Kd.N_nil _ _ _ _ _ | exact Kd.V_nil _ _ _ _ _ | exact Kd.Q_nil _ _ _ _ _ | exact Kd.S_nil _ _ _ _ _⟩, ⟨by first | exact Kd.R_nil _ _ _ _ _ | exact Kd.N_nil _ _ _ _ _ | exact Kd.V_nil _ _ _ _ _ | exact Kd.Q_nil _ _ _ _ _ | exact Kd.S_nil _ _ _ _ _⟩, ⟨bf4_ NB291_302.out NB291_302.out NB291_302.out NB291_302.out BK291.out⟩, ⟨bf4_ NB292_302.out NB292_302.out NB292_302.out NB292_302.out BK292.out⟩, ⟨bf4_ NB301_302.out NB301_302.out NB301_302.out NB301_302.out BK301.out⟩, ⟨by (with_reducible repeat (first | refine blk_drewN ?_ _ | refine blk_drew ?_ | refine blk_alloc ?_ _)); refine blk_put (cs := #[.int .i64 a0, .int .i64 a1, .slice none 0 0, .slice none 0 0]) ?_ 3 _ rfl; (with_reducible repeat (first | refine blk_drewN ?_ _ | refine blk_drew ?_ | refine blk_alloc ?_ _)); refine blk_put (cs := #[.int .i64 a0, .int .i64 a1, .slice none 0 0, .slice none 0 0]) ?_ 2 _ rfl; (with_reducible repeat (first | refine blk_drewN ?_ _ | refine blk_drew ?_ | refine blk_alloc ?_ _)); refine blk_put (cs := #[.int .i64 a0, .int .i64 0, .slice none 0 0, .slice none 0 0]) ?_ 1 _ rfl; (with_reducible repeat (first | refine blk_drewN ?_ _ | refine blk_drew ?_ | refine blk_alloc ?_ _)); refine blk_put (cs := #[.int .i64 0, .int .i64 0, .slice none 0 0, .slice none 0 0]) ?_ 0 _ rfl; (with_reducible repeat (first | refine blk_drewN ?_ _ | refine blk_drew ?_ | refine blk_alloc ?_ _)); exact BK302.out⟩, ⟨bl4_ HB.out GE291.out GE292.out GE301.out GE302.out⟩⟩
 case round =>
  clear H'
  try clear c1
  try clear c2
  try clear p2
  try clear c10
  try clear c11
  try clear c13
  try clear c16
  try clear c17
  try clear c18
  try clear hcz12_0
  try clear hcz12_1
  try clear hcz12_2
  try clear hcz12_3
  try clear hcz19_0
  try clear hcz19_1
  try clear hcz19_2
  try clear hcz19_3
  try clear hfz12_0
  try clear hfz12_1
  try clear hfz12_2
  try clear hfz12_3
  try clear hfz19_0
  try clear hfz19_1
  try clear hfz19_2
  try clear hfz19_3
  obtain ⟨x12_1, x292000_1, x292001_1, x293000_1, x293001_1, x303000_1, x303001_1, x303002_1, x303003_1, u303002, u303003, rfl, HA, HK1, HO_302002, HO_302003, HO_303002, HO_303003, BK291, BK292, BK301, BK302, HB⟩ := hrel
  cases gk with
  | zero => exact absurd HA.out (by simp [spec_liDraw.l0])
  | succ k1 =>
   have H := HA.out
   clear HA
   simp only [spec_liDraw.l0] at H
   by_cases c20 : x12_1 < (a3.size : Int)
   ·rw [if_pos c20] at H
    have c20b0 : decide (x12_1 < (a3.size : Int)) = true := decide_eq_true c20
    clear c20
    have H' := Aside0.mk H
    clear H
    go_wp2
    go_loopg [13, 14] k1 (fun kq v13 v14 w' => ∃ (x13_2 : Int) (x14_2 : Int), v13 = .int .i64 x13_2 ∧ v14 = .int .i64 x14_2 ∧ Aside0 (spec_liDraw.l1 kq a3 x12_1 x13_2 x14_2 x292000_1 x292001_1 t293 t294 t295 t298 x303000_1 x303001_1 x303002_1 x303003_1 = some (r1, r2, r3, r4, r5)) ∧ Aside0 (kq ≤ k1) ∧ Aside0 (Kd.R (Kd.int .i64) 3 w' w.heap.size (fun k_ => some k_ ≠ ((.slice Ao14 t298.length co14) : Value).ownBlock ∧ some k_ ≠ (u303002 : Value).ownBlock ∧ some k_ ≠ (u303003 : Value).ownBlock) (.slice Ao13 t295.length co13) t295) ∧ Aside0 (Kd.R (Kd.int .i64) 3 w' w.heap.size (fun k_ => some k_ ≠ ((.slice Ao13 t295.length co13) : Value).ownBlock ∧ some k_ ≠ (u303002 : Value).ownBlock ∧ some k_ ≠ (u303003 : Value).ownBlock) (.slice Ao14 t298.length co14) t298) ∧ Aside0 (Kd.R (Kd.int .i64) 3 w' w.heap.size (fun k_ => some k_ ≠ ((.slice Ao13 t295.length co13) : Value).ownBlock ∧ some k_ ≠ ((.slice Ao14 t298.length co14) : Value).ownBlock ∧ some k_ ≠ (u303003 : Value).ownBlock) u303002 x303002_1) ∧ Aside0 (Kd.R (Kd.int .i64) 3 w' w.heap.size (fun k_ => some k_ ≠ ((.slice Ao13 t295.length co13) : Value).ownBlock ∧ some k_ ≠ ((.slice Ao14 t298.length co14) : Value).ownBlock ∧ some k_ ≠ (u303002 : Value).ownBlock) u303003 x303003_1) ∧ Aside0 (w'.heap[gb291]? = some (.cells #[.int .i64 x292000_1, .int .i64 x292001_1] 32 (0, 0))) ∧ Aside0 (w'.heap[gb292]? = some (.cells #[.int .i64 x293000_1, .int .i64 x293001_1, (.slice none 0 0), (.slice none 0 0)] 30 (0, 0))) ∧ Aside0 (w'.heap[gb301]? = some (.cells #[.int .i64 t293, .int .i64 t294, (.slice Ao13 t295.length co13), (.slice Ao14 t298.length co14)] 30 (0, 0))) ∧ Aside0 (w'.heap[gb302]? = some (.cells #[.int .i64 x303000_1, .int .i64 x303001_1, u303002, u303003] 30 (0, 0))) ∧ Aside0 (Below w.heap.size w w'))
    case atStart => exact ⟨((-1)), (0), rs_, rs_, H', ⟨Nat.le_refl _⟩, ⟨kr_ HO_302002.out⟩, ⟨kr_ HO_302003.out⟩, ⟨kr_ HO_303002.out⟩, ⟨kr_ HO_303003.out⟩, ⟨bk_ BK291.out⟩, ⟨bk_ BK292.out⟩, ⟨bk_ BK301.out⟩, ⟨bk_ BK302.out⟩, ⟨bl4_ HB.out GE291.out GE292.out GE301.out GE302.out⟩⟩
    case round =>
     clear H'
     try clear c1
     try clear c2
     try clear p2
     try clear c10
     try clear c11
     try clear c13
     try clear c16
     try clear c17
     try clear c18
     try clear c20
     try clear c20b0
     try clear hcz12_0
     try clear hcz12_1
     try clear hcz12_2
     try clear hcz12_3
     try clear hcz19_0
     try clear hcz19_1
     try clear hcz19_2
     try clear hcz19_3
     try clear hfz12_0
     try clear hfz12_1
     try clear hfz12_2
     try clear hfz12_3
     try clear hfz19_0
     try clear hfz19_1
     try clear hfz19_2
     try clear hfz19_3
     try clear p2
     obtain ⟨x13_2, x14_2, rfl, rfl, HA, HK2, HO_302002, HO_302003, HO_303002, HO_303003, BK291, BK292, BK301, BK302, HB⟩ := hrel
     cases gk with
     | zero => exact absurd HA.out (by simp [spec_liDraw.l1])
     | succ k2 =>
      have H := HA.out
      clear HA
      simp only [spec_liDraw.l1] at H
      by_cases c21 : x14_2 < 4
      ·rw [if_pos c21] at H
       have c21b0 : decide (x14_2 < 4) = true := decide_eq_true c21
       clear c21
       by_cases c22 : 0 ≤ x12_1
       ·rw [if_pos c22] at H
        have c22b0 : decide (0 ≤ x12_1) = true := decide_eq_true c22
        clear c22
        by_cases c23 : x12_1 < (a3.size : Int)
        ·rw [if_pos c23] at H
         have c23b0 : decide (x12_1 < (a3.size : Int)) = true := decide_eq_true c23
         clear c23
         replace H := Option.bind_eq_some_iff.mp H
         obtain ⟨t303, A250, H⟩ := H
         replace H : (if 0 ≤ x14_2 then (if x14_2 < (t303.size : Int) then (if (bt a3 x12_1) = (bt t303 x14_2) then (spec_liDraw.l1 k2 a3 x12_1 x14_2 (wrap64 (x14_2 + 1)) x292000_1 x292001_1 t293 t294 t295 t298 x303000_1 x303001_1 x303002_1 x303003_1) else (spec_liDraw.l1 k2 a3 x12_1 x13_2 (wrap64 (x14_2 + 1)) x292000_1 x292001_1 t293 t294 t295 t298 x303000_1 x303001_1 x303002_1 x303003_1)) else (none)) else (none)) = some (r1, r2, r3, r4, r5) := H
         have A25 := Aside0.mk A250
         clear A250
         by_cases c26 : 0 ≤ x14_2
         ·rw [if_pos c26] at H
          have c26b0 : decide (0 ≤ x14_2) = true := decide_eq_true c26
          clear c26
          by_cases c27 : x14_2 < (t303.size : Int)
          ·rw [if_pos c27] at H
           have c27b0 : decide (x14_2 < (t303.size : Int)) = true := decide_eq_true c27
           clear c27
           by_cases c29 : (bt a3 x12_1) = (bt t303 x14_2)
           ·rw [if_pos c29] at H
            have c29b0 : ((bt a3 x12_1) == (bt t303 x14_2)) = true := beq_iff_eq.mpr c29
            have c29b1 : ((bt a3 x12_1) != (bt t303 x14_2)) = false := bne_eq_false_iff_eq.mpr c29
            clear c29
            have H' := Aside0.mk H
            clear H
            try go_wp2
            have n0_ := Aside0.mk (Kd.R_drew HO_302002.out)
            have n1_ := Aside0.mk (Kd.R_drew HO_302003.out)
            have n2_ := Aside0.mk (Kd.R_drew HO_303002.out)
            have n3_ := Aside0.mk (Kd.R_drew HO_303003.out)
            have n4_ := Aside0.mk (blk_drew BK291.out)
            have n5_ := Aside0.mk (blk_drew BK292.out)
            have n6_ := Aside0.mk (blk_drew BK301.out)
            have n7_ := Aside0.mk (blk_drew BK302.out)
            have n8_ := Aside0.mk (below_drew1 HB.out)
            clear HO_302002
            clear HO_302003
            clear HO_303002
            clear HO_303003
            clear BK291
            clear BK292
            clear BK301
            clear BK302
            clear HB
            have HO_302002 := n0_
            have HO_302003 := n1_
            have HO_303002 := n2_
            have HO_303003 := n3_
            have BK291 := n4_
            have BK292 := n5_
            have BK301 := n6_
            have BK302 := n7_
            have HB := n8_
            clear n0_ n1_ n2_ n3_ n4_ n5_ n6_ n7_ n8_
            have p24 : 0 ≤ (x12_1 : Int) := of_decide_eq_true as_
            have q24 : x12_1 < (a3.size : Int) := of_decide_eq_true as_
            have hx24 := bt_at a3 x12_1
            replace p24 := eq_true p24
            replace q24 := eq_true q24
            refine start_ (n := 7) (S := fun w' => True) (ds := []) #[Ff, Ff, Ff, Ff, Ff, Ff, Ff] (by kernel_rfl) rfl rfl trivial (fun hHeld => ?_)
            generalize wr.drew = w30 at HO_302002 HO_302003 HO_303002 HO_303003 BK291 BK292 BK301 BK302 HB hHeld ⊢
            refine pure_ (i := 0) (N := some 35) (v := ?_) (a' := ?_) #[Tt, Ff, Ff, Ff, Ff, Ff, Ff] rfl rfl (by kernel_rfl) (fun _ _ _ h => h) (Or.inl ⟨by rfl, ?_⟩) ?_ ?_
            rotate_left
            ·intro w'
             go_simp
             with_reducible rfl
            rotate_left
            ·simp only [Act.put, List.setIfInBounds_toArray, List.set_cons_zero, List.set_cons_succ, i64_w, i32_w]
             rfl
            refine pure_ (i := 1) (N := some 36) (v := ?_) (a' := ?_) #[Tt, Tt, Ff, Ff, Ff, Ff, Ff] rfl rfl (by kernel_rfl) (fun _ _ _ h => h) (Or.inl ⟨by rfl, ?_⟩) ?_ ?_
            rotate_left
            ·intro w'
             go_simp
             with_reducible rfl
            rotate_left
            ·simp only [Act.put, List.setIfInBounds_toArray, List.set_cons_zero, List.set_cons_succ, i64_w, i32_w]
             rfl
            refine pure_ (i := 4) (N := some 39) (v := ?_) (a' := ?_) #[Tt, Tt, Ff, Ff, Tt, Ff, Ff] rfl rfl (by kernel_rfl) (fun _ _ _ h => h) (Or.inl ⟨by rfl, ?_⟩) ?_ ?_
            rotate_left
            ·intro w'
             go_simp
             with_reducible rfl
            rotate_left
            ·simp only [Act.put, List.setIfInBounds_toArray, List.set_cons_zero, List.set_cons_succ, i64_w, i32_w]
             rfl
            refine take_ (i := 2) (N := some 37) (v := ?_) (a' := ?_) #[Tt, Tt, Tt, Ff, Tt, Ff, Ff] rfl rfl (by kernel_rfl) (fun _ _ _ h => h) (Or.inl ⟨by rfl, ?_⟩) hHeld ?_ ?_
            rotate_left
            ·intro w' _
             go_simp
             with_reducible rfl
            rotate_left
            ·simp only [Act.put, List.setIfInBounds_toArray, List.set_cons_zero, List.set_cons_succ, i64_w, i32_w]
             rfl
            refine one_ (i := 3) (N := some 38) #[Tt, Tt, Tt, Tt, Tt, Ff, Ff] rfl rfl (by kernel_rfl) (by decide) (fun K hK => ?_)
            refine goes_ Tryd.func26 (by kernel_rfl) rfl #[] (by rfl) rfl rfl ob_ ?_
            with_reducible refine (spec_liDirs.calls  t303 _ A25.out).mono ?_
            rintro e w' ⟨rfl, ⟨nd, rfl⟩⟩
            refine ⟨_, rfl, ?_⟩
            have p28 : 0 ≤ (x14_2 : Int) := of_decide_eq_true as_
            have q28 : x14_2 < (t303.size : Int) := of_decide_eq_true as_
            have hx28 := bt_at t303 x14_2
            replace p28 := eq_true p28
            replace q28 := eq_true q28
            refine hK.out _ _ trivial (fun hHeld => ?_)
            clear hK K
            refine norm_ (a' := _) ap_ ?_
            refine take_ (i := 5) (N := some 40) (v := ?_) (a' := ?_) #[Tt, Tt, Tt, Tt, Tt, Tt, Ff] rfl rfl (by kernel_rfl) (fun _ _ _ h => h) (Or.inl ⟨by rfl, ?_⟩) hHeld ?_ ?_
            rotate_left
            ·intro w' _
             go_simp
             with_reducible rfl
            rotate_left
            ·simp only [Act.put, List.setIfInBounds_toArray, List.set_cons_zero, List.set_cons_succ, i64_w, i32_w]
             rfl
            refine pure_ (i := 6) (N := some 41) (v := ?_) (a' := ?_) #[Tt, Tt, Tt, Tt, Tt, Tt, Tt] rfl rfl (by kernel_rfl) (fun _ _ _ h => h) (Or.inl ⟨by rfl, ?_⟩) ?_ ?_
            rotate_left
            ·intro w'
             go_simp
             with_reducible rfl
            rotate_left
            ·simp only [Act.put, List.setIfInBounds_toArray, List.set_cons_zero, List.set_cons_succ, i64_w, i32_w]
             rfl
            refine done_ (by kernel_rfl) ?_
            try go_wp2
            go_roundg k2
            case measure => have := HK1.out; have := HK2.out; omega
            case rel => exact ⟨(x14_2), (wrap64 (x14_2 + 1)), rs_, rs_, H', ⟨by have := HK1.out; have := HK2.out; omega⟩, ⟨kr_ HO_302002.out⟩, ⟨kr_ HO_302003.out⟩, ⟨kr_ HO_303002.out⟩, ⟨kr_ HO_303003.out⟩, ⟨bk_ BK291.out⟩, ⟨bk_ BK292.out⟩, ⟨bk_ BK301.out⟩, ⟨bk_ BK302.out⟩, ⟨bl4_ HB.out GE291.out GE292.out GE301.out GE302.out⟩⟩
           ·rw [if_neg c29] at H
            have c29b0 : ((bt a3 x12_1) == (bt t303 x14_2)) = false := beq_eq_false_iff_ne.mpr c29
            have c29b1 : ((bt a3 x12_1) != (bt t303 x14_2)) = true := bne_iff_ne.mpr c29
            have H' := Aside0.mk H
            clear H
            try go_wp2
            have n0_ := Aside0.mk (Kd.R_drew HO_302002.out)
            have n1_ := Aside0.mk (Kd.R_drew HO_302003.out)
            have n2_ := Aside0.mk (Kd.R_drew HO_303002.out)
            have n3_ := Aside0.mk (Kd.R_drew HO_303003.out)
            have n4_ := Aside0.mk (blk_drew BK291.out)
            have n5_ := Aside0.mk (blk_drew BK292.out)
            have n6_ := Aside0.mk (blk_drew BK301.out)
            have n7_ := Aside0.mk (blk_drew BK302.out)
            have n8_ := Aside0.mk (below_drew1 HB.out)
            clear HO_302002
            clear HO_302003
            clear HO_303002
            clear HO_303003
            clear BK291
            clear BK292
            clear BK301
            clear BK302
            clear HB
            have HO_302002 := n0_
            have HO_302003 := n1_
            have HO_303002 := n2_
            have HO_303003 := n3_
            have BK291 := n4_
            have BK292 := n5_
            have BK301 := n6_
            have BK302 := n7_
            have HB := n8_
            clear n0_ n1_ n2_ n3_ n4_ n5_ n6_ n7_ n8_
            have p24 : 0 ≤ (x12_1 : Int) := of_decide_eq_true as_
            have q24 : x12_1 < (a3.size : Int) := of_decide_eq_true as_
            have hx24 := bt_at a3 x12_1
            replace p24 := eq_true p24
            replace q24 := eq_true q24
            refine start_ (n := 7) (S := fun w' => True) (ds := []) #[Ff, Ff, Ff, Ff, Ff, Ff, Ff] (by kernel_rfl) rfl rfl trivial (fun hHeld => ?_)
            generalize wr.drew = w31 at HO_302002 HO_302003 HO_303002 HO_303003 BK291 BK292 BK301 BK302 HB hHeld ⊢
            refine pure_ (i := 0) (N := some 35) (v := ?_) (a' := ?_) #[Tt, Ff, Ff, Ff, Ff, Ff, Ff] rfl rfl (by kernel_rfl) (fun _ _ _ h => h) (Or.inl ⟨by rfl, ?_⟩) ?_ ?_
            rotate_left
            ·intro w'
             go_simp
             with_reducible rfl
            rotate_left
            ·simp only [Act.put, List.setIfInBounds_toArray, List.set_cons_zero, List.set_cons_succ, i64_w, i32_w]
             rfl
            refine pure_ (i := 1) (N := some 36) (v := ?_) (a' := ?_) #[Tt, Tt, Ff, Ff, Ff, Ff, Ff] rfl rfl (by kernel_rfl) (fun _ _ _ h => h) (Or.inl ⟨by rfl, ?_⟩) ?_ ?_
            rotate_left
            ·intro w'
             go_simp
             with_reducible rfl
            rotate_left
            ·simp only [Act.put, List.setIfInBounds_toArray, List.set_cons_zero, List.set_cons_succ, i64_w, i32_w]
             rfl
            refine pure_ (i := 4) (N := some 39) (v := ?_) (a' := ?_) #[Tt, Tt, Ff, Ff, Tt, Ff, Ff] rfl rfl (by kernel_rfl) (fun _ _ _ h => h) (Or.inl ⟨by rfl, ?_⟩) ?_ ?_
            rotate_left
            ·intro w'
             go_simp
             with_reducible rfl
            rotate_left
            ·simp only [Act.put, List.setIfInBounds_toArray, List.set_cons_zero, List.set_cons_succ, i64_w, i32_w]
             rfl
            refine take_ (i := 2) (N := some 37) (v := ?_) (a' := ?_) #[Tt, Tt, Tt, Ff, Tt, Ff, Ff] rfl rfl (by kernel_rfl) (fun _ _ _ h => h) (Or.inl ⟨by rfl, ?_⟩) hHeld ?_ ?_
            rotate_left
            ·intro w' _
             go_simp
             with_reducible rfl
            rotate_left
            ·simp only [Act.put, List.setIfInBounds_toArray, List.set_cons_zero, List.set_cons_succ, i64_w, i32_w]
             rfl
            refine one_ (i := 3) (N := some 38) #[Tt, Tt, Tt, Tt, Tt, Ff, Ff] rfl rfl (by kernel_rfl) (by decide) (fun K hK => ?_)
            refine goes_ Tryd.func26 (by kernel_rfl) rfl #[] (by rfl) rfl rfl ob_ ?_
            with_reducible refine (spec_liDirs.calls  t303 _ A25.out).mono ?_
            rintro e w' ⟨rfl, ⟨nd, rfl⟩⟩
            refine ⟨_, rfl, ?_⟩
            have p28 : 0 ≤ (x14_2 : Int) := of_decide_eq_true as_
            have q28 : x14_2 < (t303.size : Int) := of_decide_eq_true as_
            have hx28 := bt_at t303 x14_2
            replace p28 := eq_true p28
            replace q28 := eq_true q28
            refine hK.out _ _ trivial (fun hHeld => ?_)
            clear hK K
            refine norm_ (a' := _) ap_ ?_
            refine take_ (i := 5) (N := some 40) (v := ?_) (a' := ?_) #[Tt, Tt, Tt, Tt, Tt, Tt, Ff] rfl rfl (by kernel_rfl) (fun _ _ _ h => h) (Or.inl ⟨by rfl, ?_⟩) hHeld ?_ ?_
            rotate_left
            ·intro w' _
             go_simp
             with_reducible rfl
            rotate_left
            ·simp only [Act.put, List.setIfInBounds_toArray, List.set_cons_zero, List.set_cons_succ, i64_w, i32_w]
             rfl
            refine pure_ (i := 6) (N := some 41) (v := ?_) (a' := ?_) #[Tt, Tt, Tt, Tt, Tt, Tt, Tt] rfl rfl (by kernel_rfl) (fun _ _ _ h => h) (Or.inl ⟨by rfl, ?_⟩) ?_ ?_
            rotate_left
            ·intro w'
             go_simp
             with_reducible rfl
            rotate_left
            ·simp only [Act.put, List.setIfInBounds_toArray, List.set_cons_zero, List.set_cons_succ, i64_w, i32_w]
             rfl
            refine done_ (by kernel_rfl) ?_
            try go_wp2
            go_roundg k2
            case measure => have := HK1.out; have := HK2.out; omega
            case rel => exact ⟨(x13_2), (wrap64 (x14_2 + 1)), rs_, rs_, H', ⟨by have := HK1.out; have := HK2.out; omega⟩, ⟨kr_ HO_302002.out⟩, ⟨kr_ HO_302003.out⟩, ⟨kr_ HO_303002.out⟩, ⟨kr_ HO_303003.out⟩, ⟨bk_ BK291.out⟩, ⟨bk_ BK292.out⟩, ⟨bk_ BK301.out⟩, ⟨bk_ BK302.out⟩, ⟨bl4_ HB.out GE291.out GE292.out GE301.out GE302.out⟩⟩
          ·rw [if_neg c27] at H
           exact absurd H (by simp)
         ·rw [if_neg c26] at H
          exact absurd H (by simp)
        ·rw [if_neg c23] at H
         exact absurd H (by simp)
       ·rw [if_neg c22] at H
        exact absurd H (by simp)
      ·rw [if_neg c21] at H
       have c21b0 : decide (x14_2 < 4) = false := decide_eq_false c21
       clear c21
       by_cases c32 : x13_2 < 0
       ·rw [if_pos c32] at H
        have c32b0 : decide (x13_2 < 0) = true := decide_eq_true c32
        clear c32
        simp only [Option.some.injEq, Prod.mk.injEq] at H
        obtain ⟨rfl, rfl, rfl, rfl, rfl⟩ := H
        have hnb33 := NB292_291.out
        have hnc33 := NB291_292.out
        have hnb34 := NB292_301.out
        have hnc34 := NB301_292.out
        have hnb35 := NB292_302.out
        have hnc35 := NB302_292.out
        have hcz36_0 : wr.cell? ⟨gb292, 0, none⟩ = some (.int .i64 x293000_1) := (blk_cell BK292.out 0).trans rfl
        have hcz36_1 : wr.cell? ⟨gb292, 1, none⟩ = some (.int .i64 x293001_1) := (blk_cell BK292.out 1).trans rfl
        have hcz36_2 : wr.cell? ⟨gb292, 2, none⟩ = some (.slice none 0 0) := (blk_cell BK292.out 2).trans rfl
        have hcz36_3 : wr.cell? ⟨gb292, 3, none⟩ = some (.slice none 0 0) := (blk_cell BK292.out 3).trans rfl
        have hfz36_0 := blk_frozen BK292.out 0
        have hfz36_1 := blk_frozen BK292.out 1
        have hfz36_2 := blk_frozen BK292.out 2
        have hfz36_3 := blk_frozen BK292.out 3
        go_wp2
        refine bodyPost_ret (results_ct rfl _ _ gb292 30 #[.int .i64 0, .int .i64 0, .slice none 0 0, .slice none 0 0] (0, 0) _ rfl (by (with_reducible repeat (first | refine blk_drewN ?_ _ | refine blk_drew ?_ | refine blk_alloc ?_ _)); refine blk_put (cs := #[.int .i64 0, .int .i64 0, .slice none 0 0, .slice none 0 0]) ?_ 3 _ rfl; (with_reducible repeat (first | refine blk_drewN ?_ _ | refine blk_drew ?_ | refine blk_alloc ?_ _)); refine blk_put (cs := #[.int .i64 0, .int .i64 0, .slice none 0 0, .slice none 0 0]) ?_ 2 _ rfl; (with_reducible repeat (first | refine blk_drewN ?_ _ | refine blk_drew ?_ | refine blk_alloc ?_ _)); refine blk_put (cs := #[.int .i64 0, .int .i64 x293001_1, .slice none 0 0, .slice none 0 0]) ?_ 1 _ rfl; (with_reducible repeat (first | refine blk_drewN ?_ _ | refine blk_drew ?_ | refine blk_alloc ?_ _)); refine blk_put (cs := #[.int .i64 x293000_1, .int .i64 x293001_1, .slice none 0 0, .slice none 0 0]) ?_ 0 _ rfl; (with_reducible repeat (first | refine blk_drewN ?_ _ | refine blk_drew ?_ | refine blk_alloc ?_ _)); exact BK292.out) Tryd.underlying30 rfl (by kernel_rfl)) rfl ?_
        exact ⟨_, _, er_, by first | exact Kd.R_nil _ _ _ _ _ | exact Kd.N_nil _ _ _ _ _ | exact Kd.V_nil _ _ _ _ _ | exact Kd.Q_nil _ _ _ _ _ | exact Kd.S_nil _ _ _ _ _, by first | exact Kd.R_nil _ _ _ _ _ | exact Kd.N_nil _ _ _ _ _ | exact Kd.V_nil _ _ _ _ _ | exact Kd.Q_nil _ _ _ _ _ | exact Kd.S_nil _ _ _ _ _, bl4_ HB.out GE291.out GE292.out GE301.out GE302.out⟩
       ·rw [if_neg c32] at H
        have c32b0 : decide (x13_2 < 0) = false := decide_eq_false c32
        clear c32
        replace H := Option.bind_eq_some_iff.mp H
        obtain ⟨⟨t304, t305, t306⟩, A370, H⟩ := H
        replace H : (if t306 = true then ((spec_liNext.f k2 x303000_1 x303001_1 x303002_1 x303003_1 x292000_1 x292001_1 x13_2).bind fun bt308 => (if bt308.2.2 = true then (some (0, 0, ([] : List Int), ([] : List Int), false)) else ((spec_fiMissing.f k2 x303000_1 x303001_1 x303002_1 x303003_1).bind fun bt312 => ((spec_liEdge.f k2 t293 t294 t295 t298 x292000_1 x292001_1 x13_2).bind fun bt320 => ((spec_fiLess.f k2 bt312.1 bt312.2.1 bt312.2.2.1 bt312.2.2.2 bt320.1 bt320.2.1 bt320.2.2.1 bt320.2.2.2).bind fun bt328 => ((spec_fiMissing.f k2 bt328.1 bt328.2.1 bt328.2.2.1 bt328.2.2.2).bind fun bt336 => (spec_liDraw.l0 k2 a3 (wrap64 (x12_1 + 1)) t304 t305 t293 t294 t295 t298 bt336.1 bt336.2.1 bt336.2.2.1 bt336.2.2.2))))))) else (some (0, 0, ([] : List Int), ([] : List Int), false))) = some (r1, r2, r3, r4, r5) := H
        have A37 := Aside0.mk A370
        clear A370
        by_cases c38 : t306 = true
        ·subst c38
         have H1 : ((spec_liNext.f k2 x303000_1 x303001_1 x303002_1 x303003_1 x292000_1 x292001_1 x13_2).bind fun bt308 => (if bt308.2.2 = true then (some (0, 0, ([] : List Int), ([] : List Int), false)) else ((spec_fiMissing.f k2 x303000_1 x303001_1 x303002_1 x303003_1).bind fun bt312 => ((spec_liEdge.f k2 t293 t294 t295 t298 x292000_1 x292001_1 x13_2).bind fun bt320 => ((spec_fiLess.f k2 bt312.1 bt312.2.1 bt312.2.2.1 bt312.2.2.2 bt320.1 bt320.2.1 bt320.2.2.1 bt320.2.2.2).bind fun bt328 => ((spec_fiMissing.f k2 bt328.1 bt328.2.1 bt328.2.2.1 bt328.2.2.2).bind fun bt336 => (spec_liDraw.l0 k2 a3 (wrap64 (x12_1 + 1)) t304 t305 t293 t294 t295 t298 bt336.1 bt336.2.1 bt336.2.2.1 bt336.2.2.2))))))) = some (r1, r2, r3, r4, r5) := by rw [if_pos rfl] at H; exact H
         clear H
         have H := H1
         clear H1
         replace H := Option.bind_eq_some_iff.mp H
         obtain ⟨⟨t308, t309, t310⟩, A390, H⟩ := H
         replace H : (if t310 = true then (some (0, 0, ([] : List Int), ([] : List Int), false)) else ((spec_fiMissing.f k2 x303000_1 x303001_1 x303002_1 x303003_1).bind fun bt312 => ((spec_liEdge.f k2 t293 t294 t295 t298 x292000_1 x292001_1 x13_2).bind fun bt320 => ((spec_fiLess.f k2 bt312.1 bt312.2.1 bt312.2.2.1 bt312.2.2.2 bt320.1 bt320.2.1 bt320.2.2.1 bt320.2.2.2).bind fun bt328 => ((spec_fiMissing.f k2 bt328.1 bt328.2.1 bt328.2.2.1 bt328.2.2.2).bind fun bt336 => (spec_liDraw.l0 k2 a3 (wrap64 (x12_1 + 1)) t304 t305 t293 t294 t295 t298 bt336.1 bt336.2.1 bt336.2.2.1 bt336.2.2.2)))))) = some (r1, r2, r3, r4, r5) := H
         have A39 := Aside0.mk A390
         clear A390
         by_cases c40 : t310 = true
         ·subst c40
          have H1 : (some (0, 0, ([] : List Int), ([] : List Int), false)) = some (r1, r2, r3, r4, r5) := by rw [if_pos rfl] at H; exact H
          clear H
          have H := H1
          clear H1
          simp only [Option.some.injEq, Prod.mk.injEq] at H
          obtain ⟨rfl, rfl, rfl, rfl, rfl⟩ := H
          have hnb41 := NB301_291.out
          have hnc41 := NB291_301.out
          have hnb42 := NB301_292.out
          have hnc42 := NB292_301.out
          have hnb43 := NB301_302.out
          have hnc43 := NB302_301.out
          have hcz44_0 : wr.cell? ⟨gb301, 0, none⟩ = some (.int .i64 t293) := (blk_cell BK301.out 0).trans rfl
          have hcz44_1 : wr.cell? ⟨gb301, 1, none⟩ = some (.int .i64 t294) := (blk_cell BK301.out 1).trans rfl
          have hcz44_2 : wr.cell? ⟨gb301, 2, none⟩ = some (.slice Ao13 t295.length co13) := (blk_cell BK301.out 2).trans rfl
          have hcz44_3 : wr.cell? ⟨gb301, 3, none⟩ = some (.slice Ao14 t298.length co14) := (blk_cell BK301.out 3).trans rfl
          have hfz44_0 := blk_frozen BK301.out 0
          have hfz44_1 := blk_frozen BK301.out 1
          have hfz44_2 := blk_frozen BK301.out 2
          have hfz44_3 := blk_frozen BK301.out 3
          have hnb45 := NB291_292.out
          have hnc45 := NB292_291.out
          have hnb46 := NB291_302.out
          have hnc46 := NB302_291.out
          have hcz47_0 : wr.cell? ⟨gb291, 0, none⟩ = some (.int .i64 x292000_1) := (blk_cell BK291.out 0).trans rfl
          have hcz47_1 : wr.cell? ⟨gb291, 1, none⟩ = some (.int .i64 x292001_1) := (blk_cell BK291.out 1).trans rfl
          have hfz47_0 := blk_frozen BK291.out 0
          have hfz47_1 := blk_frozen BK291.out 1
          go_wp2_with (first | ((with_reducible refine gate_callee (f := 27) rfl ?_); refine goesL_ (some 50) rfl rfl Tryd.func27 (by kernel_rfl) rfl #[.agg #[.int .i64 t293, .int .i64 t294, .slice Ao13 t295.length co13, .slice Ao14 t298.length co14], .agg #[.int .i64 x292000_1, .int .i64 x292001_1], .int .i64 x13_2] rfl ob_ ?_; (with_reducible refine (spec_liNext.calls k2 t293 t294 _ _ t295 _ _ t298 x292000_1 x292001_1 x13_2 t304 t305 true _ ?side1 ?side2 ?side3 ?side4 A37.out).mono ?_); (case side1 => repeat (first | exact (Kd.R_reads' HO_302002.out).2.2 | (with_reducible refine Kd.C_alloc ?_ _) | (with_reducible refine Kd.C_drewN ?_ _) | (with_reducible refine Kd.C_drew ?_))); (case side2 => exact (Kd.R_reads' HO_302002.out).2.1); (case side3 => repeat (first | exact (Kd.R_reads' HO_302003.out).2.2 | (with_reducible refine Kd.C_alloc ?_ _) | (with_reducible refine Kd.C_drewN ?_ _) | (with_reducible refine Kd.C_drew ?_))); (case side4 => exact (Kd.R_reads' HO_302003.out).2.1); rintro e w48 ⟨rfl, hb⟩; refine ⟨_, rfl, ?_⟩; have n0_ := Aside0.mk (Kd.R_below (kr_ HO_302002.out) hb); have n1_ := Aside0.mk (Kd.R_below (kr_ HO_302003.out) hb); have n2_ := Aside0.mk (Kd.R_below (kr_ HO_303002.out) hb); have n3_ := Aside0.mk (Kd.R_below (kr_ HO_303003.out) hb); have n4_ := Aside0.mk (bb_ BK291.out hb); have n5_ := Aside0.mk (bb_ BK292.out hb); have n6_ := Aside0.mk (bb_ BK301.out hb); have n7_ := Aside0.mk (bb_ BK302.out hb); have n8_ := Aside0.mk (below_step (bl4_ HB.out GE291.out GE292.out GE301.out GE302.out) hb); clear HO_302002; clear HO_302003; clear HO_303002; clear HO_303003; clear BK291; clear BK292; clear BK301; clear BK302; clear HB; have HO_302002 := n0_; have HO_302003 := n1_; have HO_303002 := n2_; have HO_303003 := n3_; have BK291 := n4_; have BK292 := n5_; have BK301 := n6_; have BK302 := n7_; have HB := n8_; clear n0_ n1_ n2_ n3_ n4_ n5_ n6_ n7_ n8_; (try clear hb); (try clear hb2); (try clear hk); (try clear hi)) | ((with_reducible refine gate_dst (N := 15) rfl ?_); refine boxE_ (N := 15) (cs := #[.int .i64 0, .int .i64 0]) (t := 32) ?_; intro gb307 hg w49 hbox hb; have n0_ := Aside0.mk (Kd.R_below (kr_ HO_302002.out) hb); have n1_ := Aside0.mk (Kd.R_below (kr_ HO_302003.out) hb); have n2_ := Aside0.mk (Kd.R_below (kr_ HO_303002.out) hb); have n3_ := Aside0.mk (Kd.R_below (kr_ HO_303003.out) hb); have n4_ := Aside0.mk (bb_ BK291.out hb); have n5_ := Aside0.mk (bb_ BK292.out hb); have n6_ := Aside0.mk (bb_ BK301.out hb); have n7_ := Aside0.mk (bb_ BK302.out hb); have n8_ := Aside0.mk (below_step (bl4_ HB.out GE291.out GE292.out GE301.out GE302.out) hb); have n9_ := Aside0.mk (hbox); have n10_ := Aside0.mk ((bs4_ hg HB.out GE291.out GE292.out GE301.out GE302.out : w.heap.size ≤ gb307)); have n11_ := Aside0.mk ((bs4_ hg HB.out GE291.out GE292.out GE301.out GE302.out : w.heap.size ≤ gb307)); have n12_ := Aside0.mk ((nl_ hg BK291.out : gb291 ≠ gb307)); have n13_ := Aside0.mk ((ng_ hg BK291.out : gb307 ≠ gb291)); have n14_ := Aside0.mk ((nl_ hg BK292.out : gb292 ≠ gb307)); have n15_ := Aside0.mk ((ng_ hg BK292.out : gb307 ≠ gb292)); have n16_ := Aside0.mk ((nl_ hg BK301.out : gb301 ≠ gb307)); have n17_ := Aside0.mk ((ng_ hg BK301.out : gb307 ≠ gb301)); have n18_ := Aside0.mk ((nl_ hg BK302.out : gb302 ≠ gb307)); have n19_ := Aside0.mk ((ng_ hg BK302.out : gb307 ≠ gb302)); clear HO_302002; clear HO_302003; clear HO_303002; clear HO_303003; clear BK291; clear BK292; clear BK301; clear BK302; clear HB; have HO_302002 := n0_; have HO_302003 := n1_; have HO_303002 := n2_; have HO_303003 := n3_; have BK291 := n4_; have BK292 := n5_; have BK301 := n6_; have BK302 := n7_; have HB := n8_; have BK307 := n9_; have GW307 := n10_; have GE307 := n11_; have NB291_307 := n12_; have NB307_291 := n13_; have NB292_307 := n14_; have NB307_292 := n15_; have NB301_307 := n16_; have NB307_301 := n17_; have NB302_307 := n18_; have NB307_302 := n19_; clear n0_ n1_ n2_ n3_ n4_ n5_ n6_ n7_ n8_ n9_ n10_ n11_ n12_ n13_ n14_ n15_ n16_ n17_ n18_ n19_; clear hb hbox hg; have hnb50 := NB307_291.out; have hnc50 := NB291_307.out; have hnb51 := NB307_292.out; have hnc51 := NB292_307.out; have hnb52 := NB307_301.out; have hnc52 := NB301_307.out; have hnb53 := NB307_302.out; have hnc53 := NB302_307.out; have hcz54_0 : w49.cell? ⟨gb307, 0, none⟩ = some (.int .i64 0) := (blk_cell BK307.out 0).trans rfl; have hcz54_1 : w49.cell? ⟨gb307, 1, none⟩ = some (.int .i64 0) := (blk_cell BK307.out 1).trans rfl; have hfz54_0 := blk_frozen BK307.out 0; have hfz54_1 := blk_frozen BK307.out 1; have hnb55 := NB302_292.out; have hnc55 := NB292_302.out; have hcz56_0 : w49.cell? ⟨gb302, 0, none⟩ = some (.int .i64 x303000_1) := (blk_cell BK302.out 0).trans rfl; have hcz56_1 : w49.cell? ⟨gb302, 1, none⟩ = some (.int .i64 x303001_1) := (blk_cell BK302.out 1).trans rfl; have hcz56_2 : w49.cell? ⟨gb302, 2, none⟩ = some (u303002) := (blk_cell BK302.out 2).trans rfl; have hcz56_3 : w49.cell? ⟨gb302, 3, none⟩ = some (u303003) := (blk_cell BK302.out 3).trans rfl; have hfz56_0 := blk_frozen BK302.out 0; have hfz56_1 := blk_frozen BK302.out 1; have hfz56_2 := blk_frozen BK302.out 2; have hfz56_3 := blk_frozen BK302.out 3; have hcz57_0 : w49.cell? ⟨gb291, 0, none⟩ = some (.int .i64 x292000_1) := (blk_cell BK291.out 0).trans rfl; have hcz57_1 : w49.cell? ⟨gb291, 1, none⟩ = some (.int .i64 x292001_1) := (blk_cell BK291.out 1).trans rfl; have hfz57_0 := blk_frozen BK291.out 0; have hfz57_1 := blk_frozen BK291.out 1; obtain ⟨Ao58, co58, eo58⟩ := Kd.R_slice HO_303002.out; subst eo58; obtain ⟨Ao59, co59, eo59⟩ := Kd.R_slice HO_303003.out; subst eo59) | ((with_reducible refine gate_callee (f := 27) rfl ?_); refine goesL_ (some 60) rfl rfl Tryd.func27 (by kernel_rfl) rfl #[.agg #[.int .i64 x303000_1, .int .i64 x303001_1, .slice Ao58 x303002_1.length co58, .slice Ao59 x303003_1.length co59], .agg #[.int .i64 x292000_1, .int .i64 x292001_1], .int .i64 x13_2] rfl ob_ ?_; (with_reducible refine (spec_liNext.calls k2 x303000_1 x303001_1 _ _ x303002_1 _ _ x303003_1 x292000_1 x292001_1 x13_2 t308 t309 true _ ?side1 ?side2 ?side3 ?side4 A39.out).mono ?_); (case side1 => refine (Kd.R_reads' (e := 3) (base := w.heap.size) (ok := fun k_ => (some k_ ≠ (.slice Ao13 t295.length co13 : Value).ownBlock ∧ (some k_ ≠ (.slice Ao14 t298.length co14 : Value).ownBlock ∧ some k_ ≠ (.slice Ao59 x303003_1.length co59 : Value).ownBlock))) (n := x303002_1.length) (c := co58) ?_).2.2; exact (by (with_reducible repeat (first | apply Kd.R_alloc | apply Kd.R_drewN | apply Kd.R_drew)); exact (Kd.R_mono (Kd.R_far (p := ⟨gb307, 1, none⟩) (Kd.R_far (p := ⟨gb307, 0, none⟩) (Kd.R_types HO_303002.out BK307.out (by decide)) (fun _ hk => hk.2) (.int .i64 t304)) (fun _ hk => hk.2) (.int .i64 t305)) (fun _ h_ => h_.1)))); (case side2 => exact (Kd.R_reads' HO_303002.out).2.1); (case side3 => refine (Kd.R_reads' (e := 3) (base := w.heap.size) (ok := fun k_ => (some k_ ≠ (.slice Ao13 t295.length co13 : Value).ownBlock ∧ (some k_ ≠ (.slice Ao14 t298.length co14 : Value).ownBlock ∧ some k_ ≠ (.slice Ao58 x303002_1.length co58 : Value).ownBlock))) (n := x303003_1.length) (c := co59) ?_).2.2; exact (by (with_reducible repeat (first | apply Kd.R_alloc | apply Kd.R_drewN | apply Kd.R_drew)); exact (Kd.R_mono (Kd.R_far (p := ⟨gb307, 1, none⟩) (Kd.R_far (p := ⟨gb307, 0, none⟩) (Kd.R_types HO_303003.out BK307.out (by decide)) (fun _ hk => hk.2) (.int .i64 t304)) (fun _ hk => hk.2) (.int .i64 t305)) (fun _ h_ => h_.1)))); (case side4 => exact (Kd.R_reads' HO_303003.out).2.1); rintro e w60 ⟨rfl, hb⟩; refine ⟨_, rfl, ?_⟩; have n0_ := Aside0.mk (Kd.R_below (by (with_reducible repeat (first | apply Kd.R_alloc | apply Kd.R_drewN | apply Kd.R_drew)); exact (Kd.R_mono (Kd.R_far (p := ⟨gb307, 1, none⟩) (Kd.R_far (p := ⟨gb307, 0, none⟩) (Kd.R_types HO_302002.out BK307.out (by decide)) (fun _ hk => hk.2) (.int .i64 t304)) (fun _ hk => hk.2) (.int .i64 t305)) (fun _ h_ => h_.1))) hb); have n1_ := Aside0.mk (Kd.R_below (by (with_reducible repeat (first | apply Kd.R_alloc | apply Kd.R_drewN | apply Kd.R_drew)); exact (Kd.R_mono (Kd.R_far (p := ⟨gb307, 1, none⟩) (Kd.R_far (p := ⟨gb307, 0, none⟩) (Kd.R_types HO_302003.out BK307.out (by decide)) (fun _ hk => hk.2) (.int .i64 t304)) (fun _ hk => hk.2) (.int .i64 t305)) (fun _ h_ => h_.1))) hb); have n2_ := Aside0.mk (Kd.R_below (by (with_reducible repeat (first | apply Kd.R_alloc | apply Kd.R_drewN | apply Kd.R_drew)); exact (Kd.R_mono (Kd.R_far (p := ⟨gb307, 1, none⟩) (Kd.R_far (p := ⟨gb307, 0, none⟩) (Kd.R_types HO_303002.out BK307.out (by decide)) (fun _ hk => hk.2) (.int .i64 t304)) (fun _ hk => hk.2) (.int .i64 t305)) (fun _ h_ => h_.1))) hb); have n3_ := Aside0.mk (Kd.R_below (by (with_reducible repeat (first | apply Kd.R_alloc | apply Kd.R_drewN | apply Kd.R_drew)); exact (Kd.R_mono (Kd.R_far (p := ⟨gb307, 1, none⟩) (Kd.R_far (p := ⟨gb307, 0, none⟩) (Kd.R_types HO_303003.out BK307.out (by decide)) (fun _ hk => hk.2) (.int .i64 t304)) (fun _ hk => hk.2) (.int .i64 t305)) (fun _ h_ => h_.1))) hb); have n4_ := Aside0.mk (blk_below (g := gb291) (o := .cells #[.int .i64 x292000_1, .int .i64 x292001_1] 32 (0, 0)) (bf2_ NB291_307.out NB291_307.out BK291.out) hb); have n5_ := Aside0.mk (blk_below (g := gb292) (o := .cells #[.int .i64 x293000_1, .int .i64 x293001_1, .slice none 0 0, .slice none 0 0] 30 (0, 0)) (bf2_ NB292_307.out NB292_307.out BK292.out) hb); have n6_ := Aside0.mk (blk_below (g := gb301) (o := .cells #[.int .i64 t293, .int .i64 t294, .slice Ao13 t295.length co13, .slice Ao14 t298.length co14] 30 (0, 0)) (bf2_ NB301_307.out NB301_307.out BK301.out) hb); have n7_ := Aside0.mk (blk_below (g := gb302) (o := .cells #[.int .i64 x303000_1, .int .i64 x303001_1, .slice Ao58 x303002_1.length co58, .slice Ao59 x303003_1.length co59] 30 (0, 0)) (bf2_ NB302_307.out NB302_307.out BK302.out) hb); have n8_ := Aside0.mk (blk_below (g := gb307) (o := .cells #[.int .i64 t304, .int .i64 t305] 32 (0, 0)) (by (with_reducible repeat (first | refine blk_drewN ?_ _ | refine blk_drew ?_ | refine blk_alloc ?_ _)); refine blk_put (cs := #[.int .i64 t304, .int .i64 0]) ?_ 1 _ rfl; (with_reducible repeat (first | refine blk_drewN ?_ _ | refine blk_drew ?_ | refine blk_alloc ?_ _)); refine blk_put (cs := #[.int .i64 0, .int .i64 0]) ?_ 0 _ rfl; (with_reducible repeat (first | refine blk_drewN ?_ _ | refine blk_drew ?_ | refine blk_alloc ?_ _)); exact BK307.out) hb); have n9_ := Aside0.mk (below_step (bl5_ HB.out GE291.out GE292.out GE301.out GE302.out GE307.out) hb); clear HO_302002; clear HO_302003; clear HO_303002; clear HO_303003; clear BK291; clear BK292; clear BK301; clear BK302; clear BK307; clear HB; have HO_302002 := n0_; have HO_302003 := n1_; have HO_303002 := n2_; have HO_303003 := n3_; have BK291 := n4_; have BK292 := n5_; have BK301 := n6_; have BK302 := n7_; have BK307 := n8_; have HB := n9_; clear n0_ n1_ n2_ n3_ n4_ n5_ n6_ n7_ n8_ n9_; (try clear hb); (try clear hb2); (try clear hk); (try clear hi)) | ((with_reducible refine gate_dst (N := 17) rfl ?_); refine boxE_ (N := 17) (cs := #[.int .i64 0, .int .i64 0]) (t := 32) ?_; intro gb311 hg w61 hbox hb; have n0_ := Aside0.mk (Kd.R_below (kr_ HO_302002.out) hb); have n1_ := Aside0.mk (Kd.R_below (kr_ HO_302003.out) hb); have n2_ := Aside0.mk (Kd.R_below (kr_ HO_303002.out) hb); have n3_ := Aside0.mk (Kd.R_below (kr_ HO_303003.out) hb); have n4_ := Aside0.mk (bb_ BK291.out hb); have n5_ := Aside0.mk (bb_ BK292.out hb); have n6_ := Aside0.mk (bb_ BK301.out hb); have n7_ := Aside0.mk (bb_ BK302.out hb); have n8_ := Aside0.mk (bb_ BK307.out hb); have n9_ := Aside0.mk (below_step (bl5_ HB.out GE291.out GE292.out GE301.out GE302.out GE307.out) hb); have n10_ := Aside0.mk (hbox); have n11_ := Aside0.mk ((bs5_ hg HB.out GE291.out GE292.out GE301.out GE302.out GE307.out : w.heap.size ≤ gb311)); have n12_ := Aside0.mk ((bs5_ hg HB.out GE291.out GE292.out GE301.out GE302.out GE307.out : w.heap.size ≤ gb311)); have n13_ := Aside0.mk ((nl_ hg BK291.out : gb291 ≠ gb311)); have n14_ := Aside0.mk ((ng_ hg BK291.out : gb311 ≠ gb291)); have n15_ := Aside0.mk ((nl_ hg BK292.out : gb292 ≠ gb311)); have n16_ := Aside0.mk ((ng_ hg BK292.out : gb311 ≠ gb292)); have n17_ := Aside0.mk ((nl_ hg BK301.out : gb301 ≠ gb311)); have n18_ := Aside0.mk ((ng_ hg BK301.out : gb311 ≠ gb301)); have n19_ := Aside0.mk ((nl_ hg BK302.out : gb302 ≠ gb311)); have n20_ := Aside0.mk ((ng_ hg BK302.out : gb311 ≠ gb302)); have n21_ := Aside0.mk ((nl_ hg BK307.out : gb307 ≠ gb311)); have n22_ := Aside0.mk ((ng_ hg BK307.out : gb311 ≠ gb307)); clear HO_302002; clear HO_302003; clear HO_303002; clear HO_303003; clear BK291; clear BK292; clear BK301; clear BK302; clear BK307; clear HB; have HO_302002 := n0_; have HO_302003 := n1_; have HO_303002 := n2_; have HO_303003 := n3_; have BK291 := n4_; have BK292 := n5_; have BK301 := n6_; have BK302 := n7_; have BK307 := n8_; have HB := n9_; have BK311 := n10_; have GW311 := n11_; have GE311 := n12_; have NB291_311 := n13_; have NB311_291 := n14_; have NB292_311 := n15_; have NB311_292 := n16_; have NB301_311 := n17_; have NB311_301 := n18_; have NB302_311 := n19_; have NB311_302 := n20_; have NB307_311 := n21_; have NB311_307 := n22_; clear n0_ n1_ n2_ n3_ n4_ n5_ n6_ n7_ n8_ n9_ n10_ n11_ n12_ n13_ n14_ n15_ n16_ n17_ n18_ n19_ n20_ n21_ n22_; clear hb hbox hg; have hnb62 := NB311_291.out; have hnc62 := NB291_311.out; have hnb63 := NB311_292.out; have hnc63 := NB292_311.out; have hnb64 := NB311_301.out; have hnc64 := NB301_311.out; have hnb65 := NB311_302.out; have hnc65 := NB302_311.out; have hnb66 := NB311_307.out; have hnc66 := NB307_311.out; have hcz67_0 : w61.cell? ⟨gb311, 0, none⟩ = some (.int .i64 0) := (blk_cell BK311.out 0).trans rfl; have hcz67_1 : w61.cell? ⟨gb311, 1, none⟩ = some (.int .i64 0) := (blk_cell BK311.out 1).trans rfl; have hfz67_0 := blk_frozen BK311.out 0; have hfz67_1 := blk_frozen BK311.out 1; have hcz68_0 : w61.cell? ⟨gb292, 0, none⟩ = some (.int .i64 x293000_1) := (blk_cell BK292.out 0).trans rfl; have hcz68_1 : w61.cell? ⟨gb292, 1, none⟩ = some (.int .i64 x293001_1) := (blk_cell BK292.out 1).trans rfl; have hcz68_2 : w61.cell? ⟨gb292, 2, none⟩ = some (.slice none 0 0) := (blk_cell BK292.out 2).trans rfl; have hcz68_3 : w61.cell? ⟨gb292, 3, none⟩ = some (.slice none 0 0) := (blk_cell BK292.out 3).trans rfl; have hfz68_0 := blk_frozen BK292.out 0; have hfz68_1 := blk_frozen BK292.out 1; have hfz68_2 := blk_frozen BK292.out 2; have hfz68_3 := blk_frozen BK292.out 3))
          refine bodyPost_ret (results_ct rfl _ _ gb292 30 #[.int .i64 0, .int .i64 0, .slice none 0 0, .slice none 0 0] (0, 0) _ rfl (by (with_reducible repeat (first | refine blk_drewN ?_ _ | refine blk_drew ?_ | refine blk_alloc ?_ _)); refine blk_put (cs := #[.int .i64 0, .int .i64 0, .slice none 0 0, .slice none 0 0]) ?_ 3 _ rfl; (with_reducible repeat (first | refine blk_drewN ?_ _ | refine blk_drew ?_ | refine blk_alloc ?_ _)); refine blk_put (cs := #[.int .i64 0, .int .i64 0, .slice none 0 0, .slice none 0 0]) ?_ 2 _ rfl; (with_reducible repeat (first | refine blk_drewN ?_ _ | refine blk_drew ?_ | refine blk_alloc ?_ _)); refine blk_put (cs := #[.int .i64 0, .int .i64 x293001_1, .slice none 0 0, .slice none 0 0]) ?_ 1 _ rfl; (with_reducible repeat (first | refine blk_drewN ?_ _ | refine blk_drew ?_ | refine blk_alloc ?_ _)); refine blk_put (cs := #[.int .i64 x293000_1, .int .i64 x293001_1, .slice none 0 0, .slice none 0 0]) ?_ 0 _ rfl; (with_reducible repeat (first | refine blk_drewN ?_ _ | refine blk_drew ?_ | refine blk_alloc ?_ _)); refine blk_far ?_ NB292_311.out _; (with_reducible repeat (first | refine blk_drewN ?_ _ | refine blk_drew ?_ | refine blk_alloc ?_ _)); refine blk_far ?_ NB292_311.out _; (with_reducible repeat (first | refine blk_drewN ?_ _ | refine blk_drew ?_ | refine blk_alloc ?_ _)); exact BK292.out) Tryd.underlying30 rfl (by kernel_rfl)) rfl ?_
          exact ⟨_, _, er_, by first | exact Kd.R_nil _ _ _ _ _ | exact Kd.N_nil _ _ _ _ _ | exact Kd.V_nil _ _ _ _ _ | exact Kd.Q_nil _ _ _ _ _ | exact Kd.S_nil _ _ _ _ _, by first | exact Kd.R_nil _ _ _ _ _ | exact Kd.N_nil _ _ _ _ _ | exact Kd.V_nil _ _ _ _ _ | exact Kd.Q_nil _ _ _ _ _ | exact Kd.S_nil _ _ _ _ _, bl6_ HB.out GE291.out GE292.out GE301.out GE302.out GE307.out GE311.out⟩
         ·replace c40 := Bool.eq_false_iff.mpr c40
          subst c40
          have H1 : ((spec_fiMissing.f k2 x303000_1 x303001_1 x303002_1 x303003_1).bind fun bt312 => ((spec_liEdge.f k2 t293 t294 t295 t298 x292000_1 x292001_1 x13_2).bind fun bt320 => ((spec_fiLess.f k2 bt312.1 bt312.2.1 bt312.2.2.1 bt312.2.2.2 bt320.1 bt320.2.1 bt320.2.2.1 bt320.2.2.2).bind fun bt328 => ((spec_fiMissing.f k2 bt328.1 bt328.2.1 bt328.2.2.1 bt328.2.2.2).bind fun bt336 => (spec_liDraw.l0 k2 a3 (wrap64 (x12_1 + 1)) t304 t305 t293 t294 t295 t298 bt336.1 bt336.2.1 bt336.2.2.1 bt336.2.2.2))))) = some (r1, r2, r3, r4, r5) := by rw [if_neg (show ¬ (false = true) by decide)] at H; exact H
          clear H
          have H := H1
          clear H1
          replace H := Option.bind_eq_some_iff.mp H
          obtain ⟨⟨t312, t313, t314, t317⟩, A690, H⟩ := H
          replace H : ((spec_liEdge.f k2 t293 t294 t295 t298 x292000_1 x292001_1 x13_2).bind fun bt320 => ((spec_fiLess.f k2 t312 t313 t314 t317 bt320.1 bt320.2.1 bt320.2.2.1 bt320.2.2.2).bind fun bt328 => ((spec_fiMissing.f k2 bt328.1 bt328.2.1 bt328.2.2.1 bt328.2.2.2).bind fun bt336 => (spec_liDraw.l0 k2 a3 (wrap64 (x12_1 + 1)) t304 t305 t293 t294 t295 t298 bt336.1 bt336.2.1 bt336.2.2.1 bt336.2.2.2)))) = some (r1, r2, r3, r4, r5) := H
          have A69 := Aside0.mk A690
          clear A690
          replace H := Option.bind_eq_some_iff.mp H
          obtain ⟨⟨t320, t321, t322, t325⟩, A700, H⟩ := H
          replace H : ((spec_fiLess.f k2 t312 t313 t314 t317 t320 t321 t322 t325).bind fun bt328 => ((spec_fiMissing.f k2 bt328.1 bt328.2.1 bt328.2.2.1 bt328.2.2.2).bind fun bt336 => (spec_liDraw.l0 k2 a3 (wrap64 (x12_1 + 1)) t304 t305 t293 t294 t295 t298 bt336.1 bt336.2.1 bt336.2.2.1 bt336.2.2.2))) = some (r1, r2, r3, r4, r5) := H
          have A70 := Aside0.mk A700
          clear A700
          replace H := Option.bind_eq_some_iff.mp H
          obtain ⟨⟨t328, t329, t330, t333⟩, A710, H⟩ := H
          replace H : ((spec_fiMissing.f k2 t328 t329 t330 t333).bind fun bt336 => (spec_liDraw.l0 k2 a3 (wrap64 (x12_1 + 1)) t304 t305 t293 t294 t295 t298 bt336.1 bt336.2.1 bt336.2.2.1 bt336.2.2.2)) = some (r1, r2, r3, r4, r5) := H
          have A71 := Aside0.mk A710
          clear A710
          replace H := Option.bind_eq_some_iff.mp H
          obtain ⟨⟨t336, t337, t338, t341⟩, A720, H⟩ := H
          replace H : (spec_liDraw.l0 k2 a3 (wrap64 (x12_1 + 1)) t304 t305 t293 t294 t295 t298 t336 t337 t338 t341) = some (r1, r2, r3, r4, r5) := H
          have A72 := Aside0.mk A720
          clear A720
          have H' := Aside0.mk H
          clear H
          have hnb73 := NB301_291.out
          have hnc73 := NB291_301.out
          have hnb74 := NB301_292.out
          have hnc74 := NB292_301.out
          have hnb75 := NB301_302.out
          have hnc75 := NB302_301.out
          have hcz76_0 : wr.cell? ⟨gb301, 0, none⟩ = some (.int .i64 t293) := (blk_cell BK301.out 0).trans rfl
          have hcz76_1 : wr.cell? ⟨gb301, 1, none⟩ = some (.int .i64 t294) := (blk_cell BK301.out 1).trans rfl
          have hcz76_2 : wr.cell? ⟨gb301, 2, none⟩ = some (.slice Ao13 t295.length co13) := (blk_cell BK301.out 2).trans rfl
          have hcz76_3 : wr.cell? ⟨gb301, 3, none⟩ = some (.slice Ao14 t298.length co14) := (blk_cell BK301.out 3).trans rfl
          have hfz76_0 := blk_frozen BK301.out 0
          have hfz76_1 := blk_frozen BK301.out 1
          have hfz76_2 := blk_frozen BK301.out 2
          have hfz76_3 := blk_frozen BK301.out 3
          have hnb77 := NB291_292.out
          have hnc77 := NB292_291.out
          have hnb78 := NB291_302.out
          have hnc78 := NB302_291.out
          have hcz79_0 : wr.cell? ⟨gb291, 0, none⟩ = some (.int .i64 x292000_1) := (blk_cell BK291.out 0).trans rfl
          have hcz79_1 : wr.cell? ⟨gb291, 1, none⟩ = some (.int .i64 x292001_1) := (blk_cell BK291.out 1).trans rfl
          have hfz79_0 := blk_frozen BK291.out 0
          have hfz79_1 := blk_frozen BK291.out 1
          try go_wp2_with (first | ((with_reducible refine gate_callee (f := 27) rfl ?_); refine goesL_ (some 50) rfl rfl Tryd.func27 (by kernel_rfl) rfl #[.agg #[.int .i64 t293, .int .i64 t294, .slice Ao13 t295.length co13, .slice Ao14 t298.length co14], .agg #[.int .i64 x292000_1, .int .i64 x292001_1], .int .i64 x13_2] rfl ob_ ?_; (with_reducible refine (spec_liNext.calls k2 t293 t294 _ _ t295 _ _ t298 x292000_1 x292001_1 x13_2 t304 t305 true _ ?side1 ?side2 ?side3 ?side4 A37.out).mono ?_); (case side1 => repeat (first | exact (Kd.R_reads' HO_302002.out).2.2 | (with_reducible refine Kd.C_alloc ?_ _) | (with_reducible refine Kd.C_drewN ?_ _) | (with_reducible refine Kd.C_drew ?_))); (case side2 => exact (Kd.R_reads' HO_302002.out).2.1); (case side3 => repeat (first | exact (Kd.R_reads' HO_302003.out).2.2 | (with_reducible refine Kd.C_alloc ?_ _) | (with_reducible refine Kd.C_drewN ?_ _) | (with_reducible refine Kd.C_drew ?_))); (case side4 => exact (Kd.R_reads' HO_302003.out).2.1); rintro e w80 ⟨rfl, hb⟩; refine ⟨_, rfl, ?_⟩; have n0_ := Aside0.mk (Kd.R_below (kr_ HO_302002.out) hb); have n1_ := Aside0.mk (Kd.R_below (kr_ HO_302003.out) hb); have n2_ := Aside0.mk (Kd.R_below (kr_ HO_303002.out) hb); have n3_ := Aside0.mk (Kd.R_below (kr_ HO_303003.out) hb); have n4_ := Aside0.mk (bb_ BK291.out hb); have n5_ := Aside0.mk (bb_ BK292.out hb); have n6_ := Aside0.mk (bb_ BK301.out hb); have n7_ := Aside0.mk (bb_ BK302.out hb); have n8_ := Aside0.mk (below_step (bl4_ HB.out GE291.out GE292.out GE301.out GE302.out) hb); clear HO_302002; clear HO_302003; clear HO_303002; clear HO_303003; clear BK291; clear BK292; clear BK301; clear BK302; clear HB; have HO_302002 := n0_; have HO_302003 := n1_; have HO_303002 := n2_; have HO_303003 := n3_; have BK291 := n4_; have BK292 := n5_; have BK301 := n6_; have BK302 := n7_; have HB := n8_; clear n0_ n1_ n2_ n3_ n4_ n5_ n6_ n7_ n8_; (try clear hb); (try clear hb2); (try clear hk); (try clear hi)) | ((with_reducible refine gate_dst (N := 15) rfl ?_); refine boxE_ (N := 15) (cs := #[.int .i64 0, .int .i64 0]) (t := 32) ?_; intro gb307 hg w81 hbox hb; have n0_ := Aside0.mk (Kd.R_below (kr_ HO_302002.out) hb); have n1_ := Aside0.mk (Kd.R_below (kr_ HO_302003.out) hb); have n2_ := Aside0.mk (Kd.R_below (kr_ HO_303002.out) hb); have n3_ := Aside0.mk (Kd.R_below (kr_ HO_303003.out) hb); have n4_ := Aside0.mk (bb_ BK291.out hb); have n5_ := Aside0.mk (bb_ BK292.out hb); have n6_ := Aside0.mk (bb_ BK301.out hb); have n7_ := Aside0.mk (bb_ BK302.out hb); have n8_ := Aside0.mk (below_step (bl4_ HB.out GE291.out GE292.out GE301.out GE302.out) hb); have n9_ := Aside0.mk (hbox); have n10_ := Aside0.mk ((bs4_ hg HB.out GE291.out GE292.out GE301.out GE302.out : w.heap.size ≤ gb307)); have n11_ := Aside0.mk ((bs4_ hg HB.out GE291.out GE292.out GE301.out GE302.out : w.heap.size ≤ gb307)); have n12_ := Aside0.mk ((nl_ hg BK291.out : gb291 ≠ gb307)); have n13_ := Aside0.mk ((ng_ hg BK291.out : gb307 ≠ gb291)); have n14_ := Aside0.mk ((nl_ hg BK292.out : gb292 ≠ gb307)); have n15_ := Aside0.mk ((ng_ hg BK292.out : gb307 ≠ gb292)); have n16_ := Aside0.mk ((nl_ hg BK301.out : gb301 ≠ gb307)); have n17_ := Aside0.mk ((ng_ hg BK301.out : gb307 ≠ gb301)); have n18_ := Aside0.mk ((nl_ hg BK302.out : gb302 ≠ gb307)); have n19_ := Aside0.mk ((ng_ hg BK302.out : gb307 ≠ gb302)); clear HO_302002; clear HO_302003; clear HO_303002; clear HO_303003; clear BK291; clear BK292; clear BK301; clear BK302; clear HB; have HO_302002 := n0_; have HO_302003 := n1_; have HO_303002 := n2_; have HO_303003 := n3_; have BK291 := n4_; have BK292 := n5_; have BK301 := n6_; have BK302 := n7_; have HB := n8_; have BK307 := n9_; have GW307 := n10_; have GE307 := n11_; have NB291_307 := n12_; have NB307_291 := n13_; have NB292_307 := n14_; have NB307_292 := n15_; have NB301_307 := n16_; have NB307_301 := n17_; have NB302_307 := n18_; have NB307_302 := n19_; clear n0_ n1_ n2_ n3_ n4_ n5_ n6_ n7_ n8_ n9_ n10_ n11_ n12_ n13_ n14_ n15_ n16_ n17_ n18_ n19_; clear hb hbox hg; have hnb82 := NB307_291.out; have hnc82 := NB291_307.out; have hnb83 := NB307_292.out; have hnc83 := NB292_307.out; have hnb84 := NB307_301.out; have hnc84 := NB301_307.out; have hnb85 := NB307_302.out; have hnc85 := NB302_307.out; have hcz86_0 : w81.cell? ⟨gb307, 0, none⟩ = some (.int .i64 0) := (blk_cell BK307.out 0).trans rfl; have hcz86_1 : w81.cell? ⟨gb307, 1, none⟩ = some (.int .i64 0) := (blk_cell BK307.out 1).trans rfl; have hfz86_0 := blk_frozen BK307.out 0; have hfz86_1 := blk_frozen BK307.out 1; have hnb87 := NB302_292.out; have hnc87 := NB292_302.out; have hcz88_0 : w81.cell? ⟨gb302, 0, none⟩ = some (.int .i64 x303000_1) := (blk_cell BK302.out 0).trans rfl; have hcz88_1 : w81.cell? ⟨gb302, 1, none⟩ = some (.int .i64 x303001_1) := (blk_cell BK302.out 1).trans rfl; have hcz88_2 : w81.cell? ⟨gb302, 2, none⟩ = some (u303002) := (blk_cell BK302.out 2).trans rfl; have hcz88_3 : w81.cell? ⟨gb302, 3, none⟩ = some (u303003) := (blk_cell BK302.out 3).trans rfl; have hfz88_0 := blk_frozen BK302.out 0; have hfz88_1 := blk_frozen BK302.out 1; have hfz88_2 := blk_frozen BK302.out 2; have hfz88_3 := blk_frozen BK302.out 3; have hcz89_0 : w81.cell? ⟨gb291, 0, none⟩ = some (.int .i64 x292000_1) := (blk_cell BK291.out 0).trans rfl; have hcz89_1 : w81.cell? ⟨gb291, 1, none⟩ = some (.int .i64 x292001_1) := (blk_cell BK291.out 1).trans rfl; have hfz89_0 := blk_frozen BK291.out 0; have hfz89_1 := blk_frozen BK291.out 1; obtain ⟨Ao90, co90, eo90⟩ := Kd.R_slice HO_303002.out; subst eo90; obtain ⟨Ao91, co91, eo91⟩ := Kd.R_slice HO_303003.out; subst eo91) | ((with_reducible refine gate_callee (f := 27) rfl ?_); refine goesL_ (some 60) rfl rfl Tryd.func27 (by kernel_rfl) rfl #[.agg #[.int .i64 x303000_1, .int .i64 x303001_1, .slice Ao90 x303002_1.length co90, .slice Ao91 x303003_1.length co91], .agg #[.int .i64 x292000_1, .int .i64 x292001_1], .int .i64 x13_2] rfl ob_ ?_; (with_reducible refine (spec_liNext.calls k2 x303000_1 x303001_1 _ _ x303002_1 _ _ x303003_1 x292000_1 x292001_1 x13_2 t308 t309 false _ ?side1 ?side2 ?side3 ?side4 A39.out).mono ?_); (case side1 => refine (Kd.R_reads' (e := 3) (base := w.heap.size) (ok := fun k_ => (some k_ ≠ (.slice Ao13 t295.length co13 : Value).ownBlock ∧ (some k_ ≠ (.slice Ao14 t298.length co14 : Value).ownBlock ∧ some k_ ≠ (.slice Ao91 x303003_1.length co91 : Value).ownBlock))) (n := x303002_1.length) (c := co90) ?_).2.2; exact (by (with_reducible repeat (first | apply Kd.R_alloc | apply Kd.R_drewN | apply Kd.R_drew)); exact (Kd.R_mono (Kd.R_far (p := ⟨gb307, 1, none⟩) (Kd.R_far (p := ⟨gb307, 0, none⟩) (Kd.R_types HO_303002.out BK307.out (by decide)) (fun _ hk => hk.2) (.int .i64 t304)) (fun _ hk => hk.2) (.int .i64 t305)) (fun _ h_ => h_.1)))); (case side2 => exact (Kd.R_reads' HO_303002.out).2.1); (case side3 => refine (Kd.R_reads' (e := 3) (base := w.heap.size) (ok := fun k_ => (some k_ ≠ (.slice Ao13 t295.length co13 : Value).ownBlock ∧ (some k_ ≠ (.slice Ao14 t298.length co14 : Value).ownBlock ∧ some k_ ≠ (.slice Ao90 x303002_1.length co90 : Value).ownBlock))) (n := x303003_1.length) (c := co91) ?_).2.2; exact (by (with_reducible repeat (first | apply Kd.R_alloc | apply Kd.R_drewN | apply Kd.R_drew)); exact (Kd.R_mono (Kd.R_far (p := ⟨gb307, 1, none⟩) (Kd.R_far (p := ⟨gb307, 0, none⟩) (Kd.R_types HO_303003.out BK307.out (by decide)) (fun _ hk => hk.2) (.int .i64 t304)) (fun _ hk => hk.2) (.int .i64 t305)) (fun _ h_ => h_.1)))); (case side4 => exact (Kd.R_reads' HO_303003.out).2.1); rintro e w92 ⟨rfl, hb⟩; refine ⟨_, rfl, ?_⟩; have n0_ := Aside0.mk (Kd.R_below (by (with_reducible repeat (first | apply Kd.R_alloc | apply Kd.R_drewN | apply Kd.R_drew)); exact (Kd.R_mono (Kd.R_far (p := ⟨gb307, 1, none⟩) (Kd.R_far (p := ⟨gb307, 0, none⟩) (Kd.R_types HO_302002.out BK307.out (by decide)) (fun _ hk => hk.2) (.int .i64 t304)) (fun _ hk => hk.2) (.int .i64 t305)) (fun _ h_ => h_.1))) hb); have n1_ := Aside0.mk (Kd.R_below (by (with_reducible repeat (first | apply Kd.R_alloc | apply Kd.R_drewN | apply Kd.R_drew)); exact (Kd.R_mono (Kd.R_far (p := ⟨gb307, 1, none⟩) (Kd.R_far (p := ⟨gb307, 0, none⟩) (Kd.R_types HO_302003.out BK307.out (by decide)) (fun _ hk => hk.2) (.int .i64 t304)) (fun _ hk => hk.2) (.int .i64 t305)) (fun _ h_ => h_.1))) hb); have n2_ := Aside0.mk (Kd.R_below (by (with_reducible repeat (first | apply Kd.R_alloc | apply Kd.R_drewN | apply Kd.R_drew)); exact (Kd.R_mono (Kd.R_far (p := ⟨gb307, 1, none⟩) (Kd.R_far (p := ⟨gb307, 0, none⟩) (Kd.R_types HO_303002.out BK307.out (by decide)) (fun _ hk => hk.2) (.int .i64 t304)) (fun _ hk => hk.2) (.int .i64 t305)) (fun _ h_ => h_.1))) hb); have n3_ := Aside0.mk (Kd.R_below (by (with_reducible repeat (first | apply Kd.R_alloc | apply Kd.R_drewN | apply Kd.R_drew)); exact (Kd.R_mono (Kd.R_far (p := ⟨gb307, 1, none⟩) (Kd.R_far (p := ⟨gb307, 0, none⟩) (Kd.R_types HO_303003.out BK307.out (by decide)) (fun _ hk => hk.2) (.int .i64 t304)) (fun _ hk => hk.2) (.int .i64 t305)) (fun _ h_ => h_.1))) hb); have n4_ := Aside0.mk (blk_below (g := gb291) (o := .cells #[.int .i64 x292000_1, .int .i64 x292001_1] 32 (0, 0)) (bf2_ NB291_307.out NB291_307.out BK291.out) hb); have n5_ := Aside0.mk (blk_below (g := gb292) (o := .cells #[.int .i64 x293000_1, .int .i64 x293001_1, .slice none 0 0, .slice none 0 0] 30 (0, 0)) (bf2_ NB292_307.out NB292_307.out BK292.out) hb); have n6_ := Aside0.mk (blk_below (g := gb301) (o := .cells #[.int .i64 t293, .int .i64 t294, .slice Ao13 t295.length co13, .slice Ao14 t298.length co14] 30 (0, 0)) (bf2_ NB301_307.out NB301_307.out BK301.out) hb); have n7_ := Aside0.mk (blk_below (g := gb302) (o := .cells #[.int .i64 x303000_1, .int .i64 x303001_1, .slice Ao90 x303002_1.length co90, .slice Ao91 x303003_1.length co91] 30 (0, 0)) (bf2_ NB302_307.out NB302_307.out BK302.out) hb); have n8_ := Aside0.mk (blk_below (g := gb307) (o := .cells #[.int .i64 t304, .int .i64 t305] 32 (0, 0)) (by (with_reducible repeat (first | refine blk_drewN ?_ _ | refine blk_drew ?_ | refine blk_alloc ?_ _)); refine blk_put (cs := #[.int .i64 t304, .int .i64 0]) ?_ 1 _ rfl; (with_reducible repeat (first | refine blk_drewN ?_ _ | refine blk_drew ?_ | refine blk_alloc ?_ _)); refine blk_put (cs := #[.int .i64 0, .int .i64 0]) ?_ 0 _ rfl; (with_reducible repeat (first | refine blk_drewN ?_ _ | refine blk_drew ?_ | refine blk_alloc ?_ _)); exact BK307.out) hb); have n9_ := Aside0.mk (below_step (bl5_ HB.out GE291.out GE292.out GE301.out GE302.out GE307.out) hb); clear HO_302002; clear HO_302003; clear HO_303002; clear HO_303003; clear BK291; clear BK292; clear BK301; clear BK302; clear BK307; clear HB; have HO_302002 := n0_; have HO_302003 := n1_; have HO_303002 := n2_; have HO_303003 := n3_; have BK291 := n4_; have BK292 := n5_; have BK301 := n6_; have BK302 := n7_; have BK307 := n8_; have HB := n9_; clear n0_ n1_ n2_ n3_ n4_ n5_ n6_ n7_ n8_ n9_; (try clear hb); (try clear hb2); (try clear hk); (try clear hi)) | ((with_reducible refine gate_dst (N := 17) rfl ?_); refine boxE_ (N := 17) (cs := #[.int .i64 0, .int .i64 0]) (t := 32) ?_; intro gb311 hg w93 hbox hb; have n0_ := Aside0.mk (Kd.R_below (kr_ HO_302002.out) hb); have n1_ := Aside0.mk (Kd.R_below (kr_ HO_302003.out) hb); have n2_ := Aside0.mk (Kd.R_below (kr_ HO_303002.out) hb); have n3_ := Aside0.mk (Kd.R_below (kr_ HO_303003.out) hb); have n4_ := Aside0.mk (bb_ BK291.out hb); have n5_ := Aside0.mk (bb_ BK292.out hb); have n6_ := Aside0.mk (bb_ BK301.out hb); have n7_ := Aside0.mk (bb_ BK302.out hb); have n8_ := Aside0.mk (bb_ BK307.out hb); have n9_ := Aside0.mk (below_step (bl5_ HB.out GE291.out GE292.out GE301.out GE302.out GE307.out) hb); have n10_ := Aside0.mk (hbox); have n11_ := Aside0.mk ((bs5_ hg HB.out GE291.out GE292.out GE301.out GE302.out GE307.out : w.heap.size ≤ gb311)); have n12_ := Aside0.mk ((bs5_ hg HB.out GE291.out GE292.out GE301.out GE302.out GE307.out : w.heap.size ≤ gb311)); have n13_ := Aside0.mk ((nl_ hg BK291.out : gb291 ≠ gb311)); have n14_ := Aside0.mk ((ng_ hg BK291.out : gb311 ≠ gb291)); have n15_ := Aside0.mk ((nl_ hg BK292.out : gb292 ≠ gb311)); have n16_ := Aside0.mk ((ng_ hg BK292.out : gb311 ≠ gb292)); have n17_ := Aside0.mk ((nl_ hg BK301.out : gb301 ≠ gb311)); have n18_ := Aside0.mk ((ng_ hg BK301.out : gb311 ≠ gb301)); have n19_ := Aside0.mk ((nl_ hg BK302.out : gb302 ≠ gb311)); have n20_ := Aside0.mk ((ng_ hg BK302.out : gb311 ≠ gb302)); have n21_ := Aside0.mk ((nl_ hg BK307.out : gb307 ≠ gb311)); have n22_ := Aside0.mk ((ng_ hg BK307.out : gb311 ≠ gb307)); clear HO_302002; clear HO_302003; clear HO_303002; clear HO_303003; clear BK291; clear BK292; clear BK301; clear BK302; clear BK307; clear HB; have HO_302002 := n0_; have HO_302003 := n1_; have HO_303002 := n2_; have HO_303003 := n3_; have BK291 := n4_; have BK292 := n5_; have BK301 := n6_; have BK302 := n7_; have BK307 := n8_; have HB := n9_; have BK311 := n10_; have GW311 := n11_; have GE311 := n12_; have NB291_311 := n13_; have NB311_291 := n14_; have NB292_311 := n15_; have NB311_292 := n16_; have NB301_311 := n17_; have NB311_301 := n18_; have NB302_311 := n19_; have NB311_302 := n20_; have NB307_311 := n21_; have NB311_307 := n22_; clear n0_ n1_ n2_ n3_ n4_ n5_ n6_ n7_ n8_ n9_ n10_ n11_ n12_ n13_ n14_ n15_ n16_ n17_ n18_ n19_ n20_ n21_ n22_; clear hb hbox hg; have hnb94 := NB311_291.out; have hnc94 := NB291_311.out; have hnb95 := NB311_292.out; have hnc95 := NB292_311.out; have hnb96 := NB311_301.out; have hnc96 := NB301_311.out; have hnb97 := NB311_302.out; have hnc97 := NB302_311.out; have hnb98 := NB311_307.out; have hnc98 := NB307_311.out; have hcz99_0 : w93.cell? ⟨gb311, 0, none⟩ = some (.int .i64 0) := (blk_cell BK311.out 0).trans rfl; have hcz99_1 : w93.cell? ⟨gb311, 1, none⟩ = some (.int .i64 0) := (blk_cell BK311.out 1).trans rfl; have hfz99_0 := blk_frozen BK311.out 0; have hfz99_1 := blk_frozen BK311.out 1))
          have n0_ : Aside0 (Kd.R (Kd.int .i64) 3 ((w93.setCell ⟨gb311, 0, none⟩ (.int .i64 t308)).setCell ⟨gb311, 1, none⟩ (.int .i64 t309)) w.heap.size (fun k_ => some k_ ≠ (.slice Ao14 t298.length co14 : Value).ownBlock ∧ some k_ ≠ (.slice Ao90 x303002_1.length co90 : Value).ownBlock ∧ some k_ ≠ (.slice Ao91 x303003_1.length co91 : Value).ownBlock) (.slice Ao13 t295.length co13) t295) := ⟨by (with_reducible repeat (first | apply Kd.R_alloc | apply Kd.R_drewN | apply Kd.R_drew)); exact Kd.R_mono (Kd.R_far (p := ⟨gb311, 1, none⟩) (Kd.R_far (p := ⟨gb311, 0, none⟩) (Kd.R_types HO_302002.out BK311.out (by decide)) (fun _ hk => hk.2) (.int .i64 t308)) (fun _ hk => hk.2) (.int .i64 t309)) (fun _ hk => ⟨hk.1.1, ⟨hk.1.2.1, hk.1.2.2⟩⟩)⟩
          have n1_ : Aside0 (Kd.R (Kd.int .i64) 3 ((w93.setCell ⟨gb311, 0, none⟩ (.int .i64 t308)).setCell ⟨gb311, 1, none⟩ (.int .i64 t309)) w.heap.size (fun k_ => some k_ ≠ (.slice Ao13 t295.length co13 : Value).ownBlock ∧ some k_ ≠ (.slice Ao90 x303002_1.length co90 : Value).ownBlock ∧ some k_ ≠ (.slice Ao91 x303003_1.length co91 : Value).ownBlock) (.slice Ao14 t298.length co14) t298) := ⟨by (with_reducible repeat (first | apply Kd.R_alloc | apply Kd.R_drewN | apply Kd.R_drew)); exact Kd.R_mono (Kd.R_far (p := ⟨gb311, 1, none⟩) (Kd.R_far (p := ⟨gb311, 0, none⟩) (Kd.R_types HO_302003.out BK311.out (by decide)) (fun _ hk => hk.2) (.int .i64 t308)) (fun _ hk => hk.2) (.int .i64 t309)) (fun _ hk => ⟨hk.1.1, ⟨hk.1.2.1, hk.1.2.2⟩⟩)⟩
          have n2_ : Aside0 (Kd.R (Kd.int .i64) 3 ((w93.setCell ⟨gb311, 0, none⟩ (.int .i64 t308)).setCell ⟨gb311, 1, none⟩ (.int .i64 t309)) w.heap.size (fun k_ => some k_ ≠ (.slice Ao13 t295.length co13 : Value).ownBlock ∧ some k_ ≠ (.slice Ao14 t298.length co14 : Value).ownBlock ∧ some k_ ≠ (.slice Ao91 x303003_1.length co91 : Value).ownBlock) (.slice Ao90 x303002_1.length co90) x303002_1) := ⟨by (with_reducible repeat (first | apply Kd.R_alloc | apply Kd.R_drewN | apply Kd.R_drew)); exact Kd.R_mono (Kd.R_far (p := ⟨gb311, 1, none⟩) (Kd.R_far (p := ⟨gb311, 0, none⟩) (Kd.R_types HO_303002.out BK311.out (by decide)) (fun _ hk => hk.2) (.int .i64 t308)) (fun _ hk => hk.2) (.int .i64 t309)) (fun _ hk => ⟨hk.1.1, ⟨hk.1.2.1, hk.1.2.2⟩⟩)⟩
          have n3_ : Aside0 (Kd.R (Kd.int .i64) 3 ((w93.setCell ⟨gb311, 0, none⟩ (.int .i64 t308)).setCell ⟨gb311, 1, none⟩ (.int .i64 t309)) w.heap.size (fun k_ => some k_ ≠ (.slice Ao13 t295.length co13 : Value).ownBlock ∧ some k_ ≠ (.slice Ao14 t298.length co14 : Value).ownBlock ∧ some k_ ≠ (.slice Ao90 x303002_1.length co90 : Value).ownBlock) (.slice Ao91 x303003_1.length co91) x303003_1) := ⟨by (with_reducible repeat (first | apply Kd.R_alloc | apply Kd.R_drewN | apply Kd.R_drew)); exact Kd.R_mono (Kd.R_far (p := ⟨gb311, 1, none⟩) (Kd.R_far (p := ⟨gb311, 0, none⟩) (Kd.R_types HO_303003.out BK311.out (by decide)) (fun _ hk => hk.2) (.int .i64 t308)) (fun _ hk => hk.2) (.int .i64 t309)) (fun _ hk => ⟨hk.1.1, ⟨hk.1.2.1, hk.1.2.2⟩⟩)⟩
          have n4_ : Aside0 (((w93.setCell ⟨gb311, 0, none⟩ (.int .i64 t308)).setCell ⟨gb311, 1, none⟩ (.int .i64 t309)).heap[gb291]? = some (.cells #[.int .i64 x292000_1, .int .i64 x292001_1] 32 (0, 0))) := ⟨bf2_ NB291_311.out NB291_311.out BK291.out⟩
          have n5_ : Aside0 (((w93.setCell ⟨gb311, 0, none⟩ (.int .i64 t308)).setCell ⟨gb311, 1, none⟩ (.int .i64 t309)).heap[gb292]? = some (.cells #[.int .i64 x293000_1, .int .i64 x293001_1, .slice none 0 0, .slice none 0 0] 30 (0, 0))) := ⟨bf2_ NB292_311.out NB292_311.out BK292.out⟩
          have n6_ : Aside0 (((w93.setCell ⟨gb311, 0, none⟩ (.int .i64 t308)).setCell ⟨gb311, 1, none⟩ (.int .i64 t309)).heap[gb301]? = some (.cells #[.int .i64 t293, .int .i64 t294, .slice Ao13 t295.length co13, .slice Ao14 t298.length co14] 30 (0, 0))) := ⟨bf2_ NB301_311.out NB301_311.out BK301.out⟩
          have n7_ : Aside0 (((w93.setCell ⟨gb311, 0, none⟩ (.int .i64 t308)).setCell ⟨gb311, 1, none⟩ (.int .i64 t309)).heap[gb302]? = some (.cells #[.int .i64 x303000_1, .int .i64 x303001_1, .slice Ao90 x303002_1.length co90, .slice Ao91 x303003_1.length co91] 30 (0, 0))) := ⟨bf2_ NB302_311.out NB302_311.out BK302.out⟩
          have n8_ : Aside0 (((w93.setCell ⟨gb311, 0, none⟩ (.int .i64 t308)).setCell ⟨gb311, 1, none⟩ (.int .i64 t309)).heap[gb307]? = some (.cells #[.int .i64 t304, .int .i64 t305] 32 (0, 0))) := ⟨bf2_ NB307_311.out NB307_311.out BK307.out⟩
          have n9_ : Aside0 (((w93.setCell ⟨gb311, 0, none⟩ (.int .i64 t308)).setCell ⟨gb311, 1, none⟩ (.int .i64 t309)).heap[gb311]? = some (.cells #[.int .i64 t308, .int .i64 t309] 32 (0, 0))) := ⟨by (with_reducible repeat (first | refine blk_drewN ?_ _ | refine blk_drew ?_ | refine blk_alloc ?_ _)); refine blk_put (cs := #[.int .i64 t308, .int .i64 0]) ?_ 1 _ rfl; (with_reducible repeat (first | refine blk_drewN ?_ _ | refine blk_drew ?_ | refine blk_alloc ?_ _)); refine blk_put (cs := #[.int .i64 0, .int .i64 0]) ?_ 0 _ rfl; (with_reducible repeat (first | refine blk_drewN ?_ _ | refine blk_drew ?_ | refine blk_alloc ?_ _)); exact BK311.out⟩
          have n10_ : Aside0 (Below w.heap.size w ((w93.setCell ⟨gb311, 0, none⟩ (.int .i64 t308)).setCell ⟨gb311, 1, none⟩ (.int .i64 t309))) := ⟨bl6_ HB.out GE291.out GE292.out GE301.out GE302.out GE307.out GE311.out⟩
          (try clear HO_302002)
          (try clear HO_302003)
          (try clear HO_303002)
          (try clear HO_303003)
          (try clear BK291)
          (try clear BK292)
          (try clear BK301)
          (try clear BK302)
          (try clear BK307)
          (try clear BK311)
          (try clear HB)
          generalize ((w93.setCell ⟨gb311, 0, none⟩ (.int .i64 t308)).setCell ⟨gb311, 1, none⟩ (.int .i64 t309)) = w100 at n0_ n1_ n2_ n3_ n4_ n5_ n6_ n7_ n8_ n9_ n10_ ⊢
          have HO_302002 := n0_
          have HO_302003 := n1_
          have HO_303002 := n2_
          have HO_303003 := n3_
          have BK291 := n4_
          have BK292 := n5_
          have BK301 := n6_
          have BK302 := n7_
          have BK307 := n8_
          have BK311 := n9_
          have HB := n10_
          clear n0_ n1_ n2_ n3_ n4_ n5_ n6_ n7_ n8_ n9_ n10_
          have n0_ := Aside0.mk (Kd.R_drew HO_302002.out)
          have n1_ := Aside0.mk (Kd.R_drew HO_302003.out)
          have n2_ := Aside0.mk (Kd.R_drew HO_303002.out)
          have n3_ := Aside0.mk (Kd.R_drew HO_303003.out)
          have n4_ := Aside0.mk (blk_drew BK291.out)
          have n5_ := Aside0.mk (blk_drew BK292.out)
          have n6_ := Aside0.mk (blk_drew BK301.out)
          have n7_ := Aside0.mk (blk_drew BK302.out)
          have n8_ := Aside0.mk (blk_drew BK307.out)
          have n9_ := Aside0.mk (blk_drew BK311.out)
          have n10_ := Aside0.mk (below_drew1 HB.out)
          clear HO_302002
          clear HO_302003
          clear HO_303002
          clear HO_303003
          clear BK291
          clear BK292
          clear BK301
          clear BK302
          clear BK307
          clear BK311
          clear HB
          have HO_302002 := n0_
          have HO_302003 := n1_
          have HO_303002 := n2_
          have HO_303003 := n3_
          have BK291 := n4_
          have BK292 := n5_
          have BK301 := n6_
          have BK302 := n7_
          have BK307 := n8_
          have BK311 := n9_
          have HB := n10_
          clear n0_ n1_ n2_ n3_ n4_ n5_ n6_ n7_ n8_ n9_ n10_
          refine start_ (n := 9) (S := fun w' => w'.cell? ⟨gb302, 0, none⟩ = some (.int .i64 x303000_1) ∧ w'.cell? ⟨gb302, 1, none⟩ = some (.int .i64 x303001_1) ∧ w'.cell? ⟨gb302, 2, none⟩ = some (.slice Ao90 x303002_1.length co90) ∧ w'.cell? ⟨gb302, 3, none⟩ = some (.slice Ao91 x303003_1.length co91) ∧ w'.cell? ⟨gb301, 0, none⟩ = some (.int .i64 t293) ∧ w'.cell? ⟨gb301, 1, none⟩ = some (.int .i64 t294) ∧ w'.cell? ⟨gb301, 2, none⟩ = some (.slice Ao13 t295.length co13) ∧ w'.cell? ⟨gb301, 3, none⟩ = some (.slice Ao14 t298.length co14) ∧ w'.cell? ⟨gb291, 0, none⟩ = some (.int .i64 x292000_1) ∧ w'.cell? ⟨gb291, 1, none⟩ = some (.int .i64 x292001_1)) (ds := [8]) #[Ff, Ff, Ff, Ff, Ff, Ff, Ff, Ff, Ff] (by kernel_rfl) rfl rfl ⟨(blk_cell BK302.out 0).trans rfl, (blk_cell BK302.out 1).trans rfl, (blk_cell BK302.out 2).trans rfl, (blk_cell BK302.out 3).trans rfl, (blk_cell BK301.out 0).trans rfl, (blk_cell BK301.out 1).trans rfl, (blk_cell BK301.out 2).trans rfl, (blk_cell BK301.out 3).trans rfl, (blk_cell BK291.out 0).trans rfl, (blk_cell BK291.out 1).trans rfl⟩ (fun hHeld => ?_); refine with_tabW spec_liDraw.tab20 spec_liDraw.bits20 (fun HT_ HW_ => ?_)
          generalize w100.drew = w101 at HO_302002 HO_302003 HO_303002 HO_303003 BK291 BK292 BK301 BK302 BK307 BK311 HB hHeld ⊢
          refine pZ (i := 4) (N := some 69) #[Ff, Ff, Ff, Ff, Tt, Ff, Ff, Ff, Ff] ?_
          refine tZ (i := 0) (N := some 65) #[Tt, Ff, Ff, Ff, Tt, Ff, Ff, Ff, Ff] ?_
          refine tZ (i := 2) (N := some 67) #[Tt, Ff, Tt, Ff, Tt, Ff, Ff, Ff, Ff] ?_
          refine tZ (i := 3) (N := some 68) #[Tt, Ff, Tt, Tt, Tt, Ff, Ff, Ff, Ff] ?_
          refine one_ (i := 1) (N := some 66) #[Tt, Tt, Tt, Tt, Tt, Ff, Ff, Ff, Ff] rfl rfl (one_of HT_.out (by kernel_rfl)) (by decide) (fun K hK => ?_)
          refine goes_ Tryd.func28 (by kernel_rfl) rfl #[.agg #[.int .i64 x303000_1, .int .i64 x303001_1, .slice Ao90 x303002_1.length co90, .slice Ao91 x303003_1.length co91]] (by rfl) rfl rfl ob_ ?_
          with_reducible refine (spec_fiMissing.calls k2 x303000_1 x303001_1 _ _ x303002_1 _ _ x303003_1 t312 t313 t314 t317 _ ?side1 ?side2 ?side3 ?side4 A69.out).mono ?_
          (case side1 => repeat (first | exact (Kd.R_reads' HO_303002.out).2.2 | (with_reducible refine Kd.C_alloc ?_ _) | (with_reducible refine Kd.C_drewN ?_ _) | (with_reducible refine Kd.C_drew ?_)))
          (case side2 => exact (Kd.R_reads' HO_303002.out).2.1)
          (case side3 => repeat (first | exact (Kd.R_reads' HO_303003.out).2.2 | (with_reducible refine Kd.C_alloc ?_ _) | (with_reducible refine Kd.C_drewN ?_ _) | (with_reducible refine Kd.C_drew ?_)))
          (case side4 => exact (Kd.R_reads' HO_303003.out).2.1)
          rintro e w102 ⟨v315, v318, rfl, ho0, ho1, hb⟩
          refine ⟨_, rfl, ?_⟩
          have n0_ := Aside0.mk (Kd.R_mono (Kd.R_told (Kd.R_told (Kd.R_old (kr_ HO_302002.out) hb) (Kd.R_base ho0)) (Kd.R_base ho1)) (fun _ h_ => h_.1))
          have n1_ := Aside0.mk (Kd.R_mono (Kd.R_told (Kd.R_told (Kd.R_old (kr_ HO_302003.out) hb) (Kd.R_base ho0)) (Kd.R_base ho1)) (fun _ h_ => h_.1))
          have n2_ := Aside0.mk (Kd.R_mono (Kd.R_told (Kd.R_told (Kd.R_old (kr_ HO_303002.out) hb) (Kd.R_base ho0)) (Kd.R_base ho1)) (fun _ h_ => h_.1))
          have n3_ := Aside0.mk (Kd.R_mono (Kd.R_told (Kd.R_told (Kd.R_old (kr_ HO_303003.out) hb) (Kd.R_base ho0)) (Kd.R_base ho1)) (fun _ h_ => h_.1))
          have n4_ := Aside0.mk (Kd.R_lower (Kd.R_new' (Kd.R_new' (Kd.R_new' (Kd.R_new' ho0 (Kd.R_lt (kr_ HO_302002.out))) (Kd.R_lt (kr_ HO_302003.out))) (Kd.R_lt (kr_ HO_303002.out))) (Kd.R_lt (kr_ HO_303003.out))) (below_size (bl6_ HB.out GE291.out GE292.out GE301.out GE302.out GE307.out GE311.out)))
          have n5_ := Aside0.mk (Kd.R_lower (Kd.R_new' (Kd.R_new' (Kd.R_new' (Kd.R_new' ho1 (Kd.R_lt (kr_ HO_302002.out))) (Kd.R_lt (kr_ HO_302003.out))) (Kd.R_lt (kr_ HO_303002.out))) (Kd.R_lt (kr_ HO_303003.out))) (below_size (bl6_ HB.out GE291.out GE292.out GE301.out GE302.out GE307.out GE311.out)))
          have n6_ := Aside0.mk (bb_ BK291.out hb)
          have n7_ := Aside0.mk (bb_ BK292.out hb)
          have n8_ := Aside0.mk (bb_ BK301.out hb)
          have n9_ := Aside0.mk (bb_ BK302.out hb)
          have n10_ := Aside0.mk (bb_ BK307.out hb)
          have n11_ := Aside0.mk (bb_ BK311.out hb)
          have n12_ := Aside0.mk (below_step (bl6_ HB.out GE291.out GE292.out GE301.out GE302.out GE307.out GE311.out) hb)
          clear HO_302002
          clear HO_302003
          clear HO_303002
          clear HO_303003
          clear BK291
          clear BK292
          clear BK301
          clear BK302
          clear BK307
          clear BK311
          clear HB
          have HO_302002 := n0_
          have HO_302003 := n1_
          have HO_303002 := n2_
          have HO_303003 := n3_
          have HO316 := n4_
          have HO319 := n5_
          have BK291 := n6_
          have BK292 := n7_
          have BK301 := n8_
          have BK302 := n9_
          have BK307 := n10_
          have BK311 := n11_
          have HB := n12_
          clear n0_ n1_ n2_ n3_ n4_ n5_ n6_ n7_ n8_ n9_ n10_ n11_ n12_
          (try clear hb)
          (try clear hb2)
          (try clear hk)
          (try clear hi)
          (try clear ho0)
          (try clear ho1)
          refine hK.out _ _ ⟨(blk_cell BK302.out 0).trans rfl, (blk_cell BK302.out 1).trans rfl, (blk_cell BK302.out 2).trans rfl, (blk_cell BK302.out 3).trans rfl, (blk_cell BK301.out 0).trans rfl, (blk_cell BK301.out 1).trans rfl, (blk_cell BK301.out 2).trans rfl, (blk_cell BK301.out 3).trans rfl, (blk_cell BK291.out 0).trans rfl, (blk_cell BK291.out 1).trans rfl⟩ (fun hHeld => ?_)
          clear hK K
          refine norm_ (a' := _) ap_ ?_
          refine one_ (i := 5) (N := some 70) #[Tt, Tt, Tt, Tt, Tt, Tt, Ff, Ff, Ff] rfl rfl (one_of HT_.out (by kernel_rfl)) (by decide) (fun K hK => ?_)
          refine goes_ Tryd.func30 (by kernel_rfl) rfl #[.agg #[.int .i64 t293, .int .i64 t294, .slice Ao13 t295.length co13, .slice Ao14 t298.length co14], .agg #[.int .i64 x292000_1, .int .i64 x292001_1], .int .i64 x13_2] (by rfl) rfl rfl ob_ ?_
          with_reducible refine (spec_liEdge.calls k2 t293 t294 _ _ t295 _ _ t298 x292000_1 x292001_1 x13_2 t320 t321 t322 t325 _ ?side1 ?side2 ?side3 ?side4 A70.out).mono ?_
          (case side1 => repeat (first | exact (Kd.R_reads' HO_302002.out).2.2 | (with_reducible refine Kd.C_alloc ?_ _) | (with_reducible refine Kd.C_drewN ?_ _) | (with_reducible refine Kd.C_drew ?_)))
          (case side2 => exact (Kd.R_reads' HO_302002.out).2.1)
          (case side3 => repeat (first | exact (Kd.R_reads' HO_302003.out).2.2 | (with_reducible refine Kd.C_alloc ?_ _) | (with_reducible refine Kd.C_drewN ?_ _) | (with_reducible refine Kd.C_drew ?_)))
          (case side4 => exact (Kd.R_reads' HO_302003.out).2.1)
          rintro e w103 ⟨v323, v326, rfl, ho0, ho1, hb⟩
          refine ⟨_, rfl, ?_⟩
          have n0_ := Aside0.mk (Kd.R_mono (Kd.R_told (Kd.R_told (Kd.R_old (kr_ HO_302002.out) hb) (Kd.R_base ho0)) (Kd.R_base ho1)) (fun _ h_ => h_.1))
          have n1_ := Aside0.mk (Kd.R_mono (Kd.R_told (Kd.R_told (Kd.R_old (kr_ HO_302003.out) hb) (Kd.R_base ho0)) (Kd.R_base ho1)) (fun _ h_ => h_.1))
          have n2_ := Aside0.mk (Kd.R_mono (Kd.R_told (Kd.R_told (Kd.R_old (kr_ HO_303002.out) hb) (Kd.R_base ho0)) (Kd.R_base ho1)) (fun _ h_ => h_.1))
          have n3_ := Aside0.mk (Kd.R_mono (Kd.R_told (Kd.R_told (Kd.R_old (kr_ HO_303003.out) hb) (Kd.R_base ho0)) (Kd.R_base ho1)) (fun _ h_ => h_.1))
          have n4_ := Aside0.mk (Kd.R_mono (Kd.R_told (Kd.R_told (Kd.R_old (kr_ HO316.out) hb) (Kd.R_base ho0)) (Kd.R_base ho1)) (fun _ h_ => h_.1))
          have n5_ := Aside0.mk (Kd.R_mono (Kd.R_told (Kd.R_told (Kd.R_old (kr_ HO319.out) hb) (Kd.R_base ho0)) (Kd.R_base ho1)) (fun _ h_ => h_.1))
          have n6_ := Aside0.mk (Kd.R_lower (Kd.R_new' (Kd.R_new' (Kd.R_new' (Kd.R_new' (Kd.R_new' (Kd.R_new' ho0 (Kd.R_lt (kr_ HO_302002.out))) (Kd.R_lt (kr_ HO_302003.out))) (Kd.R_lt (kr_ HO_303002.out))) (Kd.R_lt (kr_ HO_303003.out))) (Kd.R_lt (kr_ HO316.out))) (Kd.R_lt (kr_ HO319.out))) (below_size (bl6_ HB.out GE291.out GE292.out GE301.out GE302.out GE307.out GE311.out)))
          have n7_ := Aside0.mk (Kd.R_lower (Kd.R_new' (Kd.R_new' (Kd.R_new' (Kd.R_new' (Kd.R_new' (Kd.R_new' ho1 (Kd.R_lt (kr_ HO_302002.out))) (Kd.R_lt (kr_ HO_302003.out))) (Kd.R_lt (kr_ HO_303002.out))) (Kd.R_lt (kr_ HO_303003.out))) (Kd.R_lt (kr_ HO316.out))) (Kd.R_lt (kr_ HO319.out))) (below_size (bl6_ HB.out GE291.out GE292.out GE301.out GE302.out GE307.out GE311.out)))
          have n8_ := Aside0.mk (bb_ BK291.out hb)
          have n9_ := Aside0.mk (bb_ BK292.out hb)
          have n10_ := Aside0.mk (bb_ BK301.out hb)
          have n11_ := Aside0.mk (bb_ BK302.out hb)
          have n12_ := Aside0.mk (bb_ BK307.out hb)
          have n13_ := Aside0.mk (bb_ BK311.out hb)
          have n14_ := Aside0.mk (below_step (bl6_ HB.out GE291.out GE292.out GE301.out GE302.out GE307.out GE311.out) hb)
          clear HO_302002
          clear HO_302003
          clear HO_303002
          clear HO_303003
          clear HO316
          clear HO319
          clear BK291
          clear BK292
          clear BK301
          clear BK302
          clear BK307
          clear BK311
          clear HB
          have HO_302002 := n0_
          have HO_302003 := n1_
          have HO_303002 := n2_
          have HO_303003 := n3_
          have HO316 := n4_
          have HO319 := n5_
          have HO324 := n6_
          have HO327 := n7_
          have BK291 := n8_
          have BK292 := n9_
          have BK301 := n10_
          have BK302 := n11_
          have BK307 := n12_
          have BK311 := n13_
          have HB := n14_
          clear n0_ n1_ n2_ n3_ n4_ n5_ n6_ n7_ n8_ n9_ n10_ n11_ n12_ n13_ n14_
          (try clear hb)
          (try clear hb2)
          (try clear hk)
          (try clear hi)
          (try clear ho0)
          (try clear ho1)
          obtain ⟨Ao104, co104, eo104⟩ := Kd.R_slice HO316.out
          (first | subst eo104 | (injection eo104 with f1_ f2_ f3_; have f4_ := f1_.symm; have f5_ := f3_.symm; clear f1_ f2_ f3_; subst f4_; subst f5_))
          obtain ⟨Ao105, co105, eo105⟩ := Kd.R_slice HO319.out
          (first | subst eo105 | (injection eo105 with f1_ f2_ f3_; have f4_ := f1_.symm; have f5_ := f3_.symm; clear f1_ f2_ f3_; subst f4_; subst f5_))
          obtain ⟨Ao106, co106, eo106⟩ := Kd.R_slice HO324.out
          (first | subst eo106 | (injection eo106 with f1_ f2_ f3_; have f4_ := f1_.symm; have f5_ := f3_.symm; clear f1_ f2_ f3_; subst f4_; subst f5_))
          obtain ⟨Ao107, co107, eo107⟩ := Kd.R_slice HO327.out
          (first | subst eo107 | (injection eo107 with f1_ f2_ f3_; have f4_ := f1_.symm; have f5_ := f3_.symm; clear f1_ f2_ f3_; subst f4_; subst f5_))
          refine hK.out _ _ ⟨(blk_cell BK302.out 0).trans rfl, (blk_cell BK302.out 1).trans rfl, (blk_cell BK302.out 2).trans rfl, (blk_cell BK302.out 3).trans rfl, (blk_cell BK301.out 0).trans rfl, (blk_cell BK301.out 1).trans rfl, (blk_cell BK301.out 2).trans rfl, (blk_cell BK301.out 3).trans rfl, (blk_cell BK291.out 0).trans rfl, (blk_cell BK291.out 1).trans rfl⟩ (fun hHeld => ?_)
          clear hK K
          refine norm_ (a' := _) ap_ ?_
          refine one_ (i := 6) (N := some 71) #[Tt, Tt, Tt, Tt, Tt, Tt, Tt, Ff, Ff] rfl rfl (one_of HT_.out (by kernel_rfl)) (by decide) (fun K hK => ?_)
          refine goes_ Tryd.func29 (by kernel_rfl) rfl #[.agg #[.int .i64 t312, .int .i64 t313, .slice Ao104 t314.length co104, .slice Ao105 t317.length co105], .agg #[.int .i64 t320, .int .i64 t321, .slice Ao106 t322.length co106, .slice Ao107 t325.length co107]] (by rfl) rfl rfl ob_ ?_
          with_reducible refine (spec_fiLess.calls k2 t312 t313 _ _ t314 _ _ t317 t320 t321 _ _ t322 _ _ t325 t328 t329 t330 t333 _ ?side1 ?side2 ?side3 ?side4 ?side5 ?side6 ?side7 ?side8 A71.out).mono ?_
          (case side1 => repeat (first | exact (Kd.R_reads' HO316.out).2.2 | (with_reducible refine Kd.C_alloc ?_ _) | (with_reducible refine Kd.C_drewN ?_ _) | (with_reducible refine Kd.C_drew ?_)))
          (case side2 => exact (Kd.R_reads' HO316.out).2.1)
          (case side3 => repeat (first | exact (Kd.R_reads' HO319.out).2.2 | (with_reducible refine Kd.C_alloc ?_ _) | (with_reducible refine Kd.C_drewN ?_ _) | (with_reducible refine Kd.C_drew ?_)))
          (case side4 => exact (Kd.R_reads' HO319.out).2.1)
          (case side5 => repeat (first | exact (Kd.R_reads' HO324.out).2.2 | (with_reducible refine Kd.C_alloc ?_ _) | (with_reducible refine Kd.C_drewN ?_ _) | (with_reducible refine Kd.C_drew ?_)))
          (case side6 => exact (Kd.R_reads' HO324.out).2.1)
          (case side7 => repeat (first | exact (Kd.R_reads' HO327.out).2.2 | (with_reducible refine Kd.C_alloc ?_ _) | (with_reducible refine Kd.C_drewN ?_ _) | (with_reducible refine Kd.C_drew ?_)))
          (case side8 => exact (Kd.R_reads' HO327.out).2.1)
          rintro e w108 ⟨v331, v334, rfl, ho0, ho1, hb⟩
          refine ⟨_, rfl, ?_⟩
          have n0_ := Aside0.mk (Kd.R_mono (Kd.R_told (Kd.R_told (Kd.R_old (kr_ HO_302002.out) hb) (Kd.R_base ho0)) (Kd.R_base ho1)) (fun _ h_ => h_.1))
          have n1_ := Aside0.mk (Kd.R_mono (Kd.R_told (Kd.R_told (Kd.R_old (kr_ HO_302003.out) hb) (Kd.R_base ho0)) (Kd.R_base ho1)) (fun _ h_ => h_.1))
          have n2_ := Aside0.mk (Kd.R_mono (Kd.R_told (Kd.R_told (Kd.R_old (kr_ HO_303002.out) hb) (Kd.R_base ho0)) (Kd.R_base ho1)) (fun _ h_ => h_.1))
          have n3_ := Aside0.mk (Kd.R_mono (Kd.R_told (Kd.R_told (Kd.R_old (kr_ HO_303003.out) hb) (Kd.R_base ho0)) (Kd.R_base ho1)) (fun _ h_ => h_.1))
          have n4_ := Aside0.mk (Kd.R_mono (Kd.R_told (Kd.R_told (Kd.R_old (kr_ HO316.out) hb) (Kd.R_base ho0)) (Kd.R_base ho1)) (fun _ h_ => h_.1))
          have n5_ := Aside0.mk (Kd.R_mono (Kd.R_told (Kd.R_told (Kd.R_old (kr_ HO319.out) hb) (Kd.R_base ho0)) (Kd.R_base ho1)) (fun _ h_ => h_.1))
          have n6_ := Aside0.mk (Kd.R_mono (Kd.R_told (Kd.R_told (Kd.R_old (kr_ HO324.out) hb) (Kd.R_base ho0)) (Kd.R_base ho1)) (fun _ h_ => h_.1))
          have n7_ := Aside0.mk (Kd.R_mono (Kd.R_told (Kd.R_told (Kd.R_old (kr_ HO327.out) hb) (Kd.R_base ho0)) (Kd.R_base ho1)) (fun _ h_ => h_.1))
          have n8_ := Aside0.mk (Kd.R_lower (Kd.R_new' (Kd.R_new' (Kd.R_new' (Kd.R_new' (Kd.R_new' (Kd.R_new' (Kd.R_new' (Kd.R_new' ho0 (Kd.R_lt (kr_ HO_302002.out))) (Kd.R_lt (kr_ HO_302003.out))) (Kd.R_lt (kr_ HO_303002.out))) (Kd.R_lt (kr_ HO_303003.out))) (Kd.R_lt (kr_ HO316.out))) (Kd.R_lt (kr_ HO319.out))) (Kd.R_lt (kr_ HO324.out))) (Kd.R_lt (kr_ HO327.out))) (below_size (bl6_ HB.out GE291.out GE292.out GE301.out GE302.out GE307.out GE311.out)))
          have n9_ := Aside0.mk (Kd.R_lower (Kd.R_new' (Kd.R_new' (Kd.R_new' (Kd.R_new' (Kd.R_new' (Kd.R_new' (Kd.R_new' (Kd.R_new' ho1 (Kd.R_lt (kr_ HO_302002.out))) (Kd.R_lt (kr_ HO_302003.out))) (Kd.R_lt (kr_ HO_303002.out))) (Kd.R_lt (kr_ HO_303003.out))) (Kd.R_lt (kr_ HO316.out))) (Kd.R_lt (kr_ HO319.out))) (Kd.R_lt (kr_ HO324.out))) (Kd.R_lt (kr_ HO327.out))) (below_size (bl6_ HB.out GE291.out GE292.out GE301.out GE302.out GE307.out GE311.out)))
          have n10_ := Aside0.mk (bb_ BK291.out hb)
          have n11_ := Aside0.mk (bb_ BK292.out hb)
          have n12_ := Aside0.mk (bb_ BK301.out hb)
          have n13_ := Aside0.mk (bb_ BK302.out hb)
          have n14_ := Aside0.mk (bb_ BK307.out hb)
          have n15_ := Aside0.mk (bb_ BK311.out hb)
          have n16_ := Aside0.mk (below_step (bl6_ HB.out GE291.out GE292.out GE301.out GE302.out GE307.out GE311.out) hb)
          clear HO_302002
          clear HO_302003
          clear HO_303002
          clear HO_303003
          clear HO316
          clear HO319
          clear HO324
          clear HO327
          clear BK291
          clear BK292
          clear BK301
          clear BK302
          clear BK307
          clear BK311
          clear HB
          have HO_302002 := n0_
          have HO_302003 := n1_
          have HO_303002 := n2_
          have HO_303003 := n3_
          have HO316 := n4_
          have HO319 := n5_
          have HO324 := n6_
          have HO327 := n7_
          have HO332 := n8_
          have HO335 := n9_
          have BK291 := n10_
          have BK292 := n11_
          have BK301 := n12_
          have BK302 := n13_
          have BK307 := n14_
          have BK311 := n15_
          have HB := n16_
          clear n0_ n1_ n2_ n3_ n4_ n5_ n6_ n7_ n8_ n9_ n10_ n11_ n12_ n13_ n14_ n15_ n16_
          (try clear hb)
          (try clear hb2)
          (try clear hk)
          (try clear hi)
          (try clear ho0)
          (try clear ho1)
          obtain ⟨Ao109, co109, eo109⟩ := Kd.R_slice HO332.out
          (first | subst eo109 | (injection eo109 with f1_ f2_ f3_; have f4_ := f1_.symm; have f5_ := f3_.symm; clear f1_ f2_ f3_; subst f4_; subst f5_))
          obtain ⟨Ao110, co110, eo110⟩ := Kd.R_slice HO335.out
          (first | subst eo110 | (injection eo110 with f1_ f2_ f3_; have f4_ := f1_.symm; have f5_ := f3_.symm; clear f1_ f2_ f3_; subst f4_; subst f5_))
          refine hK.out _ _ ⟨(blk_cell BK302.out 0).trans rfl, (blk_cell BK302.out 1).trans rfl, (blk_cell BK302.out 2).trans rfl, (blk_cell BK302.out 3).trans rfl, (blk_cell BK301.out 0).trans rfl, (blk_cell BK301.out 1).trans rfl, (blk_cell BK301.out 2).trans rfl, (blk_cell BK301.out 3).trans rfl, (blk_cell BK291.out 0).trans rfl, (blk_cell BK291.out 1).trans rfl⟩ (fun hHeld => ?_)
          clear hK K
          refine norm_ (a' := _) ap_ ?_
          refine one_ (i := 7) (N := some 72) #[Tt, Tt, Tt, Tt, Tt, Tt, Tt, Tt, Ff] rfl rfl (one_of HT_.out (by kernel_rfl)) (by decide) (fun K hK => ?_)
          refine goes_ Tryd.func28 (by kernel_rfl) rfl #[.agg #[.int .i64 t328, .int .i64 t329, .slice Ao109 t330.length co109, .slice Ao110 t333.length co110]] (by rfl) rfl rfl ob_ ?_
          with_reducible refine (spec_fiMissing.calls k2 t328 t329 _ _ t330 _ _ t333 t336 t337 t338 t341 _ ?side1 ?side2 ?side3 ?side4 A72.out).mono ?_
          (case side1 => repeat (first | exact (Kd.R_reads' HO332.out).2.2 | (with_reducible refine Kd.C_alloc ?_ _) | (with_reducible refine Kd.C_drewN ?_ _) | (with_reducible refine Kd.C_drew ?_)))
          (case side2 => exact (Kd.R_reads' HO332.out).2.1)
          (case side3 => repeat (first | exact (Kd.R_reads' HO335.out).2.2 | (with_reducible refine Kd.C_alloc ?_ _) | (with_reducible refine Kd.C_drewN ?_ _) | (with_reducible refine Kd.C_drew ?_)))
          (case side4 => exact (Kd.R_reads' HO335.out).2.1)
          rintro e w111 ⟨v339, v342, rfl, ho0, ho1, hb⟩
          refine ⟨_, rfl, ?_⟩
          have n0_ := Aside0.mk (Kd.R_mono (Kd.R_told (Kd.R_told (Kd.R_old (kr_ HO_302002.out) hb) (Kd.R_base ho0)) (Kd.R_base ho1)) (fun _ h_ => h_.1))
          have n1_ := Aside0.mk (Kd.R_mono (Kd.R_told (Kd.R_told (Kd.R_old (kr_ HO_302003.out) hb) (Kd.R_base ho0)) (Kd.R_base ho1)) (fun _ h_ => h_.1))
          have n2_ := Aside0.mk (Kd.R_mono (Kd.R_told (Kd.R_told (Kd.R_old (kr_ HO_303002.out) hb) (Kd.R_base ho0)) (Kd.R_base ho1)) (fun _ h_ => h_.1))
          have n3_ := Aside0.mk (Kd.R_mono (Kd.R_told (Kd.R_told (Kd.R_old (kr_ HO_303003.out) hb) (Kd.R_base ho0)) (Kd.R_base ho1)) (fun _ h_ => h_.1))
          have n4_ := Aside0.mk (Kd.R_mono (Kd.R_told (Kd.R_told (Kd.R_old (kr_ HO316.out) hb) (Kd.R_base ho0)) (Kd.R_base ho1)) (fun _ h_ => h_.1))
          have n5_ := Aside0.mk (Kd.R_mono (Kd.R_told (Kd.R_told (Kd.R_old (kr_ HO319.out) hb) (Kd.R_base ho0)) (Kd.R_base ho1)) (fun _ h_ => h_.1))
          have n6_ := Aside0.mk (Kd.R_mono (Kd.R_told (Kd.R_told (Kd.R_old (kr_ HO324.out) hb) (Kd.R_base ho0)) (Kd.R_base ho1)) (fun _ h_ => h_.1))
          have n7_ := Aside0.mk (Kd.R_mono (Kd.R_told (Kd.R_told (Kd.R_old (kr_ HO327.out) hb) (Kd.R_base ho0)) (Kd.R_base ho1)) (fun _ h_ => h_.1))
          have n8_ := Aside0.mk (Kd.R_mono (Kd.R_told (Kd.R_told (Kd.R_old (kr_ HO332.out) hb) (Kd.R_base ho0)) (Kd.R_base ho1)) (fun _ h_ => h_.1))
          have n9_ := Aside0.mk (Kd.R_mono (Kd.R_told (Kd.R_told (Kd.R_old (kr_ HO335.out) hb) (Kd.R_base ho0)) (Kd.R_base ho1)) (fun _ h_ => h_.1))
          have n10_ := Aside0.mk (Kd.R_lower (Kd.R_new' (Kd.R_new' (Kd.R_new' (Kd.R_new' (Kd.R_new' (Kd.R_new' (Kd.R_new' (Kd.R_new' (Kd.R_new' (Kd.R_new' ho0 (Kd.R_lt (kr_ HO_302002.out))) (Kd.R_lt (kr_ HO_302003.out))) (Kd.R_lt (kr_ HO_303002.out))) (Kd.R_lt (kr_ HO_303003.out))) (Kd.R_lt (kr_ HO316.out))) (Kd.R_lt (kr_ HO319.out))) (Kd.R_lt (kr_ HO324.out))) (Kd.R_lt (kr_ HO327.out))) (Kd.R_lt (kr_ HO332.out))) (Kd.R_lt (kr_ HO335.out))) (below_size (bl6_ HB.out GE291.out GE292.out GE301.out GE302.out GE307.out GE311.out)))
          have n11_ := Aside0.mk (Kd.R_lower (Kd.R_new' (Kd.R_new' (Kd.R_new' (Kd.R_new' (Kd.R_new' (Kd.R_new' (Kd.R_new' (Kd.R_new' (Kd.R_new' (Kd.R_new' ho1 (Kd.R_lt (kr_ HO_302002.out))) (Kd.R_lt (kr_ HO_302003.out))) (Kd.R_lt (kr_ HO_303002.out))) (Kd.R_lt (kr_ HO_303003.out))) (Kd.R_lt (kr_ HO316.out))) (Kd.R_lt (kr_ HO319.out))) (Kd.R_lt (kr_ HO324.out))) (Kd.R_lt (kr_ HO327.out))) (Kd.R_lt (kr_ HO332.out))) (Kd.R_lt (kr_ HO335.out))) (below_size (bl6_ HB.out GE291.out GE292.out GE301.out GE302.out GE307.out GE311.out)))
          have n12_ := Aside0.mk (bb_ BK291.out hb)
          have n13_ := Aside0.mk (bb_ BK292.out hb)
          have n14_ := Aside0.mk (bb_ BK301.out hb)
          have n15_ := Aside0.mk (bb_ BK302.out hb)
          have n16_ := Aside0.mk (bb_ BK307.out hb)
          have n17_ := Aside0.mk (bb_ BK311.out hb)
          have n18_ := Aside0.mk (below_step (bl6_ HB.out GE291.out GE292.out GE301.out GE302.out GE307.out GE311.out) hb)
          clear HO_302002
          clear HO_302003
          clear HO_303002
          clear HO_303003
          clear HO316
          clear HO319
          clear HO324
          clear HO327
          clear HO332
          clear HO335
          clear BK291
          clear BK292
          clear BK301
          clear BK302
          clear BK307
          clear BK311
          clear HB
          have HO_302002 := n0_
          have HO_302003 := n1_
          have HO_303002 := n2_
          have HO_303003 := n3_
          have HO316 := n4_
          have HO319 := n5_
          have HO324 := n6_
          have HO327 := n7_
          have HO332 := n8_
          have HO335 := n9_
          have HO340 := n10_
          have HO343 := n11_
          have BK291 := n12_
          have BK292 := n13_
          have BK301 := n14_
          have BK302 := n15_
          have BK307 := n16_
          have BK311 := n17_
          have HB := n18_
          clear n0_ n1_ n2_ n3_ n4_ n5_ n6_ n7_ n8_ n9_ n10_ n11_ n12_ n13_ n14_ n15_ n16_ n17_ n18_
          (try clear hb)
          (try clear hb2)
          (try clear hk)
          (try clear hi)
          (try clear ho0)
          (try clear ho1)
          obtain ⟨Ao114, co114, eo114⟩ := Kd.R_slice HO340.out
          (first | subst eo114 | (injection eo114 with f1_ f2_ f3_; have f4_ := f1_.symm; have f5_ := f3_.symm; clear f1_ f2_ f3_; subst f4_; subst f5_))
          obtain ⟨Ao116, co116, eo116⟩ := Kd.R_slice HO343.out
          (first | subst eo116 | (injection eo116 with f1_ f2_ f3_; have f4_ := f1_.symm; have f5_ := f3_.symm; clear f1_ f2_ f3_; subst f4_; subst f5_))
          refine hK.out _ _ ⟨(blk_cell BK302.out 0).trans rfl, (blk_cell BK302.out 1).trans rfl, (blk_cell BK302.out 2).trans rfl, (blk_cell BK302.out 3).trans rfl, (blk_cell BK301.out 0).trans rfl, (blk_cell BK301.out 1).trans rfl, (blk_cell BK301.out 2).trans rfl, (blk_cell BK301.out 3).trans rfl, (blk_cell BK291.out 0).trans rfl, (blk_cell BK291.out 1).trans rfl⟩ (fun hHeld => ?_)
          clear hK K
          refine norm_ (a' := _) ap_ ?_
          refine last_ (i := 8) (N := none) #[Tt, Tt, Tt, Tt, Tt, Tt, Tt, Tt, Tt] rfl rfl (one_of HT_.out (by kernel_rfl)) (by decide) (fun K hK => ?_)
          have hs112 : w111.cell? ⟨gb302, 0, none⟩ = some (.int .i64 x303000_1) := (blk_cell BK302.out 0).trans rfl
          have hfs112 := blk_frozen BK302.out 0
          have hns112_0 := NB291_302.out
          have hns112_1 := NB292_302.out
          have hns112_2 := NB301_302.out
          have hns112_4 := NB307_302.out
          have hns112_5 := NB311_302.out
          have hms112_0 := NB302_291.out
          have hms112_1 := NB302_292.out
          have hms112_2 := NB302_301.out
          have hms112_4 := NB302_307.out
          have hms112_5 := NB302_311.out
          have hs113 : w111.cell? ⟨gb302, 1, none⟩ = some (.int .i64 x303001_1) := (blk_cell BK302.out 1).trans rfl
          have hfs113 := blk_frozen BK302.out 1
          have hns113_0 := NB291_302.out
          have hns113_1 := NB292_302.out
          have hns113_2 := NB301_302.out
          have hns113_4 := NB307_302.out
          have hns113_5 := NB311_302.out
          have hms113_0 := NB302_291.out
          have hms113_1 := NB302_292.out
          have hms113_2 := NB302_301.out
          have hms113_4 := NB302_307.out
          have hms113_5 := NB302_311.out
          have hs115 : w111.cell? ⟨gb302, 2, none⟩ = some (.slice Ao90 x303002_1.length co90) := (blk_cell BK302.out 2).trans rfl
          have hfs115 := blk_frozen BK302.out 2
          have hns115_0 := NB291_302.out
          have hns115_1 := NB292_302.out
          have hns115_2 := NB301_302.out
          have hns115_4 := NB307_302.out
          have hns115_5 := NB311_302.out
          have hms115_0 := NB302_291.out
          have hms115_1 := NB302_292.out
          have hms115_2 := NB302_301.out
          have hms115_4 := NB302_307.out
          have hms115_5 := NB302_311.out
          have hs117 : w111.cell? ⟨gb302, 3, none⟩ = some (.slice Ao91 x303003_1.length co91) := (blk_cell BK302.out 3).trans rfl
          have hfs117 := blk_frozen BK302.out 3
          have hns117_0 := NB291_302.out
          have hns117_1 := NB292_302.out
          have hns117_2 := NB301_302.out
          have hns117_4 := NB307_302.out
          have hns117_5 := NB311_302.out
          have hms117_0 := NB302_291.out
          have hms117_1 := NB302_292.out
          have hms117_2 := NB302_301.out
          have hms117_4 := NB302_307.out
          have hms117_5 := NB302_311.out
          refine skip_ (w1 := ?_) (by rfl) rfl ?_ ?_
          rotate_left
          ·go_simp
           rfl
          refine hK.out _ _ ?_
          clear hK K
          refine done_ (done_of HT_.out (by kernel_rfl)) ?_
          have hcz118_0 : w111.cell? ⟨gb307, 0, none⟩ = some (.int .i64 t304) := (blk_cell BK307.out 0).trans rfl
          have hcz118_1 : w111.cell? ⟨gb307, 1, none⟩ = some (.int .i64 t305) := (blk_cell BK307.out 1).trans rfl
          have hfz118_0 := blk_frozen BK307.out 0
          have hfz118_1 := blk_frozen BK307.out 1
          have hcz119_0 : w111.cell? ⟨gb291, 0, none⟩ = some (.int .i64 x292000_1) := (blk_cell BK291.out 0).trans rfl
          have hcz119_1 : w111.cell? ⟨gb291, 1, none⟩ = some (.int .i64 x292001_1) := (blk_cell BK291.out 1).trans rfl
          have hfz119_0 := blk_frozen BK291.out 0
          have hfz119_1 := blk_frozen BK291.out 1
          try go_wp2
          go_roundg k2
          case measure => have := HK1.out; have := HK2.out; omega
          case rel => exact ⟨(wrap64 (x12_1 + 1)), (t304), (t305), (x293000_1), (x293001_1), (t336), (t337), (t338), (t341), (.slice Ao114 t338.length co114), (.slice Ao116 t341.length co116), rs_, H', ⟨by have := HK1.out; have := HK2.out; omega⟩, ⟨by (with_reducible repeat (first | apply Kd.R_alloc | apply Kd.R_drewN | apply Kd.R_drew)); exact Kd.R_mono (Kd.R_far (p := ⟨gb291, 1, none⟩) (Kd.R_far (p := ⟨gb291, 0, none⟩) (Kd.R_far (p := ⟨gb302, 3, none⟩) (Kd.R_far (p := ⟨gb302, 2, none⟩) (Kd.R_far (p := ⟨gb302, 1, none⟩) (Kd.R_far (p := ⟨gb302, 0, none⟩) (Kd.R_types (Kd.R_types HO_302002.out BK302.out (by decide)) BK291.out (by decide)) (fun _ hk => hk.1.2) (.int .i64 t336)) (fun _ hk => hk.1.2) (.int .i64 t337)) (fun _ hk => hk.1.2) (.slice Ao114 t338.length co114)) (fun _ hk => hk.1.2) (.slice Ao116 t341.length co116)) (fun _ hk => hk.2) (.int .i64 t304)) (fun _ hk => hk.2) (.int .i64 t305)) (fun _ hk => ⟨hk.1.1.1.1.1.1.1.1.1.1.1, ⟨hk.1.1.1.2, hk.1.1.2⟩⟩)⟩, ⟨by (with_reducible repeat (first | apply Kd.R_alloc | apply Kd.R_drewN | apply Kd.R_drew)); exact Kd.R_mono (Kd.R_far (p := ⟨gb291, 1, none⟩) (Kd.R_far (p := ⟨gb291, 0, none⟩) (Kd.R_far (p := ⟨gb302, 3, none⟩) (Kd.R_far (p := ⟨gb302, 2, none⟩) (Kd.R_far (p := ⟨gb302, 1, none⟩) (Kd.R_far (p := ⟨gb302, 0, none⟩) (Kd.R_types (Kd.R_types HO_302003.out BK302.out (by decide)) BK291.out (by decide)) (fun _ hk => hk.1.2) (.int .i64 t336)) (fun _ hk => hk.1.2) (.int .i64 t337)) (fun _ hk => hk.1.2) (.slice Ao114 t338.length co114)) (fun _ hk => hk.1.2) (.slice Ao116 t341.length co116)) (fun _ hk => hk.2) (.int .i64 t304)) (fun _ hk => hk.2) (.int .i64 t305)) (fun _ hk => ⟨hk.1.1.1.1.1.1.1.1.1.1.1, ⟨hk.1.1.1.2, hk.1.1.2⟩⟩)⟩, ⟨by (with_reducible repeat (first | apply Kd.R_alloc | apply Kd.R_drewN | apply Kd.R_drew)); exact Kd.R_mono (Kd.R_far (p := ⟨gb291, 1, none⟩) (Kd.R_far (p := ⟨gb291, 0, none⟩) (Kd.R_far (p := ⟨gb302, 3, none⟩) (Kd.R_far (p := ⟨gb302, 2, none⟩) (Kd.R_far (p := ⟨gb302, 1, none⟩) (Kd.R_far (p := ⟨gb302, 0, none⟩) (Kd.R_types (Kd.R_types HO340.out BK302.out (by decide)) BK291.out (by decide)) (fun _ hk => hk.1.2) (.int .i64 t336)) (fun _ hk => hk.1.2) (.int .i64 t337)) (fun _ hk => hk.1.2) (.slice Ao114 t338.length co114)) (fun _ hk => hk.1.2) (.slice Ao116 t341.length co116)) (fun _ hk => hk.2) (.int .i64 t304)) (fun _ hk => hk.2) (.int .i64 t305)) (fun _ hk => ⟨hk.1.1.1.1.1.1.1.1.1.1.1.2, ⟨hk.1.1.1.1.1.1.1.1.1.1.2, hk.1.1.1.1.1.1.1.1.1.1.1.1⟩⟩)⟩, ⟨by (with_reducible repeat (first | apply Kd.R_alloc | apply Kd.R_drewN | apply Kd.R_drew)); exact Kd.R_mono (Kd.R_far (p := ⟨gb291, 1, none⟩) (Kd.R_far (p := ⟨gb291, 0, none⟩) (Kd.R_far (p := ⟨gb302, 3, none⟩) (Kd.R_far (p := ⟨gb302, 2, none⟩) (Kd.R_far (p := ⟨gb302, 1, none⟩) (Kd.R_far (p := ⟨gb302, 0, none⟩) (Kd.R_types (Kd.R_types HO343.out BK302.out (by decide)) BK291.out (by decide)) (fun _ hk => hk.1.2) (.int .i64 t336)) (fun _ hk => hk.1.2) (.int .i64 t337)) (fun _ hk => hk.1.2) (.slice Ao114 t338.length co114)) (fun _ hk => hk.1.2) (.slice Ao116 t341.length co116)) (fun _ hk => hk.2) (.int .i64 t304)) (fun _ hk => hk.2) (.int .i64 t305)) (fun _ hk => ⟨hk.1.1.1.1.1.1.1.1.1.1.1.2, ⟨hk.1.1.1.1.1.1.1.1.1.1.2, hk.1.1.1.1.1.1.1.1.1.1.1.1⟩⟩)⟩, ⟨by (with_reducible repeat (first | refine blk_drewN ?_ _ | refine blk_drew ?_ | refine blk_alloc ?_ _)); refine blk_put (cs := #[.int .i64 t304, .int .i64 x292001_1]) ?_ 1 _ rfl; (with_reducible repeat (first | refine blk_drewN ?_ _ | refine blk_drew ?_ | refine blk_alloc ?_ _)); refine blk_put (cs := #[.int .i64 x292000_1, .int .i64 x292001_1]) ?_ 0 _ rfl; (with_reducible repeat (first | refine blk_drewN ?_ _ | refine blk_drew ?_ | refine blk_alloc ?_ _)); refine blk_far ?_ NB291_302.out _; (with_reducible repeat (first | refine blk_drewN ?_ _ | refine blk_drew ?_ | refine blk_alloc ?_ _)); refine blk_far ?_ NB291_302.out _; (with_reducible repeat (first | refine blk_drewN ?_ _ | refine blk_drew ?_ | refine blk_alloc ?_ _)); refine blk_far ?_ NB291_302.out _; (with_reducible repeat (first | refine blk_drewN ?_ _ | refine blk_drew ?_ | refine blk_alloc ?_ _)); refine blk_far ?_ NB291_302.out _; (with_reducible repeat (first | refine blk_drewN ?_ _ | refine blk_drew ?_ | refine blk_alloc ?_ _)); exact BK291.out⟩, ⟨bf6_ NB292_291.out NB292_291.out NB292_302.out NB292_302.out NB292_302.out NB292_302.out BK292.out⟩, ⟨bf6_ NB301_291.out NB301_291.out NB301_302.out NB301_302.out NB301_302.out NB301_302.out BK301.out⟩, ⟨by (with_reducible repeat (first | refine blk_drewN ?_ _ | refine blk_drew ?_ | refine blk_alloc ?_ _)); refine blk_far ?_ NB302_291.out _; (with_reducible repeat (first | refine blk_drewN ?_ _ | refine blk_drew ?_ | refine blk_alloc ?_ _)); refine blk_far ?_ NB302_291.out _; (with_reducible repeat (first | refine blk_drewN ?_ _ | refine blk_drew ?_ | refine blk_alloc ?_ _)); refine blk_put (cs := #[.int .i64 t336, .int .i64 t337, .slice Ao114 t338.length co114, .slice Ao91 x303003_1.length co91]) ?_ 3 _ rfl; (with_reducible repeat (first | refine blk_drewN ?_ _ | refine blk_drew ?_ | refine blk_alloc ?_ _)); refine blk_put (cs := #[.int .i64 t336, .int .i64 t337, .slice Ao90 x303002_1.length co90, .slice Ao91 x303003_1.length co91]) ?_ 2 _ rfl; (with_reducible repeat (first | refine blk_drewN ?_ _ | refine blk_drew ?_ | refine blk_alloc ?_ _)); refine blk_put (cs := #[.int .i64 t336, .int .i64 x303001_1, .slice Ao90 x303002_1.length co90, .slice Ao91 x303003_1.length co91]) ?_ 1 _ rfl; (with_reducible repeat (first | refine blk_drewN ?_ _ | refine blk_drew ?_ | refine blk_alloc ?_ _)); refine blk_put (cs := #[.int .i64 x303000_1, .int .i64 x303001_1, .slice Ao90 x303002_1.length co90, .slice Ao91 x303003_1.length co91]) ?_ 0 _ rfl; (with_reducible repeat (first | refine blk_drewN ?_ _ | refine blk_drew ?_ | refine blk_alloc ?_ _)); exact BK302.out⟩, ⟨bl6_ HB.out GE291.out GE292.out GE301.out GE302.out GE307.out GE311.out⟩⟩
        ·replace c38 := Bool.eq_false_iff.mpr c38
         subst c38
         have H1 : (some (0, 0, ([] : List Int), ([] : List Int), false)) = some (r1, r2, r3, r4, r5) := by rw [if_neg (show ¬ (false = true) by decide)] at H; exact H
         clear H
         have H := H1
         clear H1
         simp only [Option.some.injEq, Prod.mk.injEq] at H
         obtain ⟨rfl, rfl, rfl, rfl, rfl⟩ := H
         have hnb120 := NB301_291.out
         have hnc120 := NB291_301.out
         have hnb121 := NB301_292.out
         have hnc121 := NB292_301.out
         have hnb122 := NB301_302.out
         have hnc122 := NB302_301.out
         have hcz123_0 : wr.cell? ⟨gb301, 0, none⟩ = some (.int .i64 t293) := (blk_cell BK301.out 0).trans rfl
         have hcz123_1 : wr.cell? ⟨gb301, 1, none⟩ = some (.int .i64 t294) := (blk_cell BK301.out 1).trans rfl
         have hcz123_2 : wr.cell? ⟨gb301, 2, none⟩ = some (.slice Ao13 t295.length co13) := (blk_cell BK301.out 2).trans rfl
         have hcz123_3 : wr.cell? ⟨gb301, 3, none⟩ = some (.slice Ao14 t298.length co14) := (blk_cell BK301.out 3).trans rfl
         have hfz123_0 := blk_frozen BK301.out 0
         have hfz123_1 := blk_frozen BK301.out 1
         have hfz123_2 := blk_frozen BK301.out 2
         have hfz123_3 := blk_frozen BK301.out 3
         have hnb124 := NB291_292.out
         have hnc124 := NB292_291.out
         have hnb125 := NB291_302.out
         have hnc125 := NB302_291.out
         have hcz126_0 : wr.cell? ⟨gb291, 0, none⟩ = some (.int .i64 x292000_1) := (blk_cell BK291.out 0).trans rfl
         have hcz126_1 : wr.cell? ⟨gb291, 1, none⟩ = some (.int .i64 x292001_1) := (blk_cell BK291.out 1).trans rfl
         have hfz126_0 := blk_frozen BK291.out 0
         have hfz126_1 := blk_frozen BK291.out 1
         go_wp2_with (first | ((with_reducible refine gate_callee (f := 27) rfl ?_); refine goesL_ (some 50) rfl rfl Tryd.func27 (by kernel_rfl) rfl #[.agg #[.int .i64 t293, .int .i64 t294, .slice Ao13 t295.length co13, .slice Ao14 t298.length co14], .agg #[.int .i64 x292000_1, .int .i64 x292001_1], .int .i64 x13_2] rfl ob_ ?_; (with_reducible refine (spec_liNext.calls k2 t293 t294 _ _ t295 _ _ t298 x292000_1 x292001_1 x13_2 t304 t305 false _ ?side1 ?side2 ?side3 ?side4 A37.out).mono ?_); (case side1 => repeat (first | exact (Kd.R_reads' HO_302002.out).2.2 | (with_reducible refine Kd.C_alloc ?_ _) | (with_reducible refine Kd.C_drewN ?_ _) | (with_reducible refine Kd.C_drew ?_))); (case side2 => exact (Kd.R_reads' HO_302002.out).2.1); (case side3 => repeat (first | exact (Kd.R_reads' HO_302003.out).2.2 | (with_reducible refine Kd.C_alloc ?_ _) | (with_reducible refine Kd.C_drewN ?_ _) | (with_reducible refine Kd.C_drew ?_))); (case side4 => exact (Kd.R_reads' HO_302003.out).2.1); rintro e w127 ⟨rfl, hb⟩; refine ⟨_, rfl, ?_⟩; have n0_ := Aside0.mk (Kd.R_below (kr_ HO_302002.out) hb); have n1_ := Aside0.mk (Kd.R_below (kr_ HO_302003.out) hb); have n2_ := Aside0.mk (Kd.R_below (kr_ HO_303002.out) hb); have n3_ := Aside0.mk (Kd.R_below (kr_ HO_303003.out) hb); have n4_ := Aside0.mk (bb_ BK291.out hb); have n5_ := Aside0.mk (bb_ BK292.out hb); have n6_ := Aside0.mk (bb_ BK301.out hb); have n7_ := Aside0.mk (bb_ BK302.out hb); have n8_ := Aside0.mk (below_step (bl4_ HB.out GE291.out GE292.out GE301.out GE302.out) hb); clear HO_302002; clear HO_302003; clear HO_303002; clear HO_303003; clear BK291; clear BK292; clear BK301; clear BK302; clear HB; have HO_302002 := n0_; have HO_302003 := n1_; have HO_303002 := n2_; have HO_303003 := n3_; have BK291 := n4_; have BK292 := n5_; have BK301 := n6_; have BK302 := n7_; have HB := n8_; clear n0_ n1_ n2_ n3_ n4_ n5_ n6_ n7_ n8_; (try clear hb); (try clear hb2); (try clear hk); (try clear hi)) | ((with_reducible refine gate_dst (N := 15) rfl ?_); refine boxE_ (N := 15) (cs := #[.int .i64 0, .int .i64 0]) (t := 32) ?_; intro gb307 hg w128 hbox hb; have n0_ := Aside0.mk (Kd.R_below (kr_ HO_302002.out) hb); have n1_ := Aside0.mk (Kd.R_below (kr_ HO_302003.out) hb); have n2_ := Aside0.mk (Kd.R_below (kr_ HO_303002.out) hb); have n3_ := Aside0.mk (Kd.R_below (kr_ HO_303003.out) hb); have n4_ := Aside0.mk (bb_ BK291.out hb); have n5_ := Aside0.mk (bb_ BK292.out hb); have n6_ := Aside0.mk (bb_ BK301.out hb); have n7_ := Aside0.mk (bb_ BK302.out hb); have n8_ := Aside0.mk (below_step (bl4_ HB.out GE291.out GE292.out GE301.out GE302.out) hb); have n9_ := Aside0.mk (hbox); have n10_ := Aside0.mk ((bs4_ hg HB.out GE291.out GE292.out GE301.out GE302.out : w.heap.size ≤ gb307)); have n11_ := Aside0.mk ((bs4_ hg HB.out GE291.out GE292.out GE301.out GE302.out : w.heap.size ≤ gb307)); have n12_ := Aside0.mk ((nl_ hg BK291.out : gb291 ≠ gb307)); have n13_ := Aside0.mk ((ng_ hg BK291.out : gb307 ≠ gb291)); have n14_ := Aside0.mk ((nl_ hg BK292.out : gb292 ≠ gb307)); have n15_ := Aside0.mk ((ng_ hg BK292.out : gb307 ≠ gb292)); have n16_ := Aside0.mk ((nl_ hg BK301.out : gb301 ≠ gb307)); have n17_ := Aside0.mk ((ng_ hg BK301.out : gb307 ≠ gb301)); have n18_ := Aside0.mk ((nl_ hg BK302.out : gb302 ≠ gb307)); have n19_ := Aside0.mk ((ng_ hg BK302.out : gb307 ≠ gb302)); clear HO_302002; clear HO_302003; clear HO_303002; clear HO_303003; clear BK291; clear BK292; clear BK301; clear BK302; clear HB; have HO_302002 := n0_; have HO_302003 := n1_; have HO_303002 := n2_; have HO_303003 := n3_; have BK291 := n4_; have BK292 := n5_; have BK301 := n6_; have BK302 := n7_; have HB := n8_; have BK307 := n9_; have GW307 := n10_; have GE307 := n11_; have NB291_307 := n12_; have NB307_291 := n13_; have NB292_307 := n14_; have NB307_292 := n15_; have NB301_307 := n16_; have NB307_301 := n17_; have NB302_307 := n18_; have NB307_302 := n19_; clear n0_ n1_ n2_ n3_ n4_ n5_ n6_ n7_ n8_ n9_ n10_ n11_ n12_ n13_ n14_ n15_ n16_ n17_ n18_ n19_; clear hb hbox hg; have hnb129 := NB307_291.out; have hnc129 := NB291_307.out; have hnb130 := NB307_292.out; have hnc130 := NB292_307.out; have hnb131 := NB307_301.out; have hnc131 := NB301_307.out; have hnb132 := NB307_302.out; have hnc132 := NB302_307.out; have hcz133_0 : w128.cell? ⟨gb307, 0, none⟩ = some (.int .i64 0) := (blk_cell BK307.out 0).trans rfl; have hcz133_1 : w128.cell? ⟨gb307, 1, none⟩ = some (.int .i64 0) := (blk_cell BK307.out 1).trans rfl; have hfz133_0 := blk_frozen BK307.out 0; have hfz133_1 := blk_frozen BK307.out 1; have hnb134 := NB292_302.out; have hnc134 := NB302_292.out; have hcz135_0 : w128.cell? ⟨gb292, 0, none⟩ = some (.int .i64 x293000_1) := (blk_cell BK292.out 0).trans rfl; have hcz135_1 : w128.cell? ⟨gb292, 1, none⟩ = some (.int .i64 x293001_1) := (blk_cell BK292.out 1).trans rfl; have hcz135_2 : w128.cell? ⟨gb292, 2, none⟩ = some (.slice none 0 0) := (blk_cell BK292.out 2).trans rfl; have hcz135_3 : w128.cell? ⟨gb292, 3, none⟩ = some (.slice none 0 0) := (blk_cell BK292.out 3).trans rfl; have hfz135_0 := blk_frozen BK292.out 0; have hfz135_1 := blk_frozen BK292.out 1; have hfz135_2 := blk_frozen BK292.out 2; have hfz135_3 := blk_frozen BK292.out 3))
         refine bodyPost_ret (results_ct rfl _ _ gb292 30 #[.int .i64 0, .int .i64 0, .slice none 0 0, .slice none 0 0] (0, 0) _ rfl (by (with_reducible repeat (first | refine blk_drewN ?_ _ | refine blk_drew ?_ | refine blk_alloc ?_ _)); refine blk_put (cs := #[.int .i64 0, .int .i64 0, .slice none 0 0, .slice none 0 0]) ?_ 3 _ rfl; (with_reducible repeat (first | refine blk_drewN ?_ _ | refine blk_drew ?_ | refine blk_alloc ?_ _)); refine blk_put (cs := #[.int .i64 0, .int .i64 0, .slice none 0 0, .slice none 0 0]) ?_ 2 _ rfl; (with_reducible repeat (first | refine blk_drewN ?_ _ | refine blk_drew ?_ | refine blk_alloc ?_ _)); refine blk_put (cs := #[.int .i64 0, .int .i64 x293001_1, .slice none 0 0, .slice none 0 0]) ?_ 1 _ rfl; (with_reducible repeat (first | refine blk_drewN ?_ _ | refine blk_drew ?_ | refine blk_alloc ?_ _)); refine blk_put (cs := #[.int .i64 x293000_1, .int .i64 x293001_1, .slice none 0 0, .slice none 0 0]) ?_ 0 _ rfl; (with_reducible repeat (first | refine blk_drewN ?_ _ | refine blk_drew ?_ | refine blk_alloc ?_ _)); refine blk_far ?_ NB292_307.out _; (with_reducible repeat (first | refine blk_drewN ?_ _ | refine blk_drew ?_ | refine blk_alloc ?_ _)); refine blk_far ?_ NB292_307.out _; (with_reducible repeat (first | refine blk_drewN ?_ _ | refine blk_drew ?_ | refine blk_alloc ?_ _)); exact BK292.out) Tryd.underlying30 rfl (by kernel_rfl)) rfl ?_
         exact ⟨_, _, er_, by first | exact Kd.R_nil _ _ _ _ _ | exact Kd.N_nil _ _ _ _ _ | exact Kd.V_nil _ _ _ _ _ | exact Kd.Q_nil _ _ _ _ _ | exact Kd.S_nil _ _ _ _ _, by first | exact Kd.R_nil _ _ _ _ _ | exact Kd.N_nil _ _ _ _ _ | exact Kd.V_nil _ _ _ _ _ | exact Kd.Q_nil _ _ _ _ _ | exact Kd.S_nil _ _ _ _ _, bl5_ HB.out GE291.out GE292.out GE301.out GE302.out GE307.out⟩
   ·rw [if_neg c20] at H
    have c20b0 : decide (x12_1 < (a3.size : Int)) = false := decide_eq_false c20
    clear c20
    simp only [Option.some.injEq, Prod.mk.injEq] at H
    obtain ⟨rfl, rfl, rfl, rfl, rfl⟩ := H
    have hnb136 := NB302_291.out
    have hnc136 := NB291_302.out
    have hnb137 := NB302_292.out
    have hnc137 := NB292_302.out
    have hnb138 := NB302_301.out
    have hnc138 := NB301_302.out
    have hcz139_0 : wr.cell? ⟨gb302, 0, none⟩ = some (.int .i64 x303000_1) := (blk_cell BK302.out 0).trans rfl
    have hcz139_1 : wr.cell? ⟨gb302, 1, none⟩ = some (.int .i64 x303001_1) := (blk_cell BK302.out 1).trans rfl
    have hcz139_2 : wr.cell? ⟨gb302, 2, none⟩ = some (u303002) := (blk_cell BK302.out 2).trans rfl
    have hcz139_3 : wr.cell? ⟨gb302, 3, none⟩ = some (u303003) := (blk_cell BK302.out 3).trans rfl
    have hfz139_0 := blk_frozen BK302.out 0
    have hfz139_1 := blk_frozen BK302.out 1
    have hfz139_2 := blk_frozen BK302.out 2
    have hfz139_3 := blk_frozen BK302.out 3
    have hnb140 := NB292_291.out
    have hnc140 := NB291_292.out
    have hnb141 := NB292_301.out
    have hnc141 := NB301_292.out
    have hcz142_0 : wr.cell? ⟨gb292, 0, none⟩ = some (.int .i64 x293000_1) := (blk_cell BK292.out 0).trans rfl
    have hcz142_1 : wr.cell? ⟨gb292, 1, none⟩ = some (.int .i64 x293001_1) := (blk_cell BK292.out 1).trans rfl
    have hcz142_2 : wr.cell? ⟨gb292, 2, none⟩ = some (.slice none 0 0) := (blk_cell BK292.out 2).trans rfl
    have hcz142_3 : wr.cell? ⟨gb292, 3, none⟩ = some (.slice none 0 0) := (blk_cell BK292.out 3).trans rfl
    have hfz142_0 := blk_frozen BK292.out 0
    have hfz142_1 := blk_frozen BK292.out 1
    have hfz142_2 := blk_frozen BK292.out 2
    have hfz142_3 := blk_frozen BK292.out 3
    obtain ⟨Ao143, co143, eo143⟩ := Kd.R_slice HO_303002.out
    subst eo143
    obtain ⟨Ao144, co144, eo144⟩ := Kd.R_slice HO_303003.out
    subst eo144
    go_wp2
    refine bodyPost_ret (results_ct rfl _ _ gb292 30 #[.int .i64 x303000_1, .int .i64 x303001_1, .slice Ao143 x303002_1.length co143, .slice Ao144 x303003_1.length co144] (0, 0) _ rfl (by (with_reducible repeat (first | refine blk_drewN ?_ _ | refine blk_drew ?_ | refine blk_alloc ?_ _)); refine blk_put (cs := #[.int .i64 x303000_1, .int .i64 x303001_1, .slice Ao143 x303002_1.length co143, .slice none 0 0]) ?_ 3 _ rfl; (with_reducible repeat (first | refine blk_drewN ?_ _ | refine blk_drew ?_ | refine blk_alloc ?_ _)); refine blk_put (cs := #[.int .i64 x303000_1, .int .i64 x303001_1, .slice none 0 0, .slice none 0 0]) ?_ 2 _ rfl; (with_reducible repeat (first | refine blk_drewN ?_ _ | refine blk_drew ?_ | refine blk_alloc ?_ _)); refine blk_put (cs := #[.int .i64 x303000_1, .int .i64 x293001_1, .slice none 0 0, .slice none 0 0]) ?_ 1 _ rfl; (with_reducible repeat (first | refine blk_drewN ?_ _ | refine blk_drew ?_ | refine blk_alloc ?_ _)); refine blk_put (cs := #[.int .i64 x293000_1, .int .i64 x293001_1, .slice none 0 0, .slice none 0 0]) ?_ 0 _ rfl; (with_reducible repeat (first | refine blk_drewN ?_ _ | refine blk_drew ?_ | refine blk_alloc ?_ _)); exact BK292.out) Tryd.underlying30 rfl (by kernel_rfl)) rfl ?_
    exact ⟨_, _, er_, by (with_reducible repeat (first | apply Kd.R_alloc | apply Kd.R_drewN | apply Kd.R_drew)); exact Kd.R_mono (Kd.R_far (p := ⟨gb292, 3, none⟩) (Kd.R_far (p := ⟨gb292, 2, none⟩) (Kd.R_far (p := ⟨gb292, 1, none⟩) (Kd.R_far (p := ⟨gb292, 0, none⟩) (Kd.R_types HO_303002.out BK292.out (by decide)) (fun _ hk => hk.2) (.int .i64 x303000_1)) (fun _ hk => hk.2) (.int .i64 x303001_1)) (fun _ hk => hk.2) (.slice Ao143 x303002_1.length co143)) (fun _ hk => hk.2) (.slice Ao144 x303003_1.length co144)) (fun _ hk => hk.1.2.2), by (with_reducible repeat (first | apply Kd.R_alloc | apply Kd.R_drewN | apply Kd.R_drew)); exact Kd.R_mono (Kd.R_far (p := ⟨gb292, 3, none⟩) (Kd.R_far (p := ⟨gb292, 2, none⟩) (Kd.R_far (p := ⟨gb292, 1, none⟩) (Kd.R_far (p := ⟨gb292, 0, none⟩) (Kd.R_types HO_303003.out BK292.out (by decide)) (fun _ hk => hk.2) (.int .i64 x303000_1)) (fun _ hk => hk.2) (.int .i64 x303001_1)) (fun _ hk => hk.2) (.slice Ao143 x303002_1.length co143)) (fun _ hk => hk.2) (.slice Ao144 x303003_1.length co144)) (fun _ hk => hk.1.2.2), bl4_ HB.out GE291.out GE292.out GE301.out GE302.out⟩


mutual
def spec_fiText.l0 : Nat → ByteArray → Int → Int → Int → List Int → List Int → Option (ByteArray)
 | 0, _, _, _, _, _, _ => none
 | k + 1, x3, x4, x345000, x345001, x345002, x345003 => if x4 ≤ x345001 then (if x4 > 0 then (if x3.size + 1 ≤ 9223372036854775807 then (spec_fiText.j1 k (x3 ++ (⟨#[47]⟩ : ByteArray)) x4 x345000 x345001 x345002 x345003) else (none)) else (spec_fiText.j1 k x3 x4 x345000 x345001 x345002 x345003)) else (some x3)
def spec_fiText.j1 : Nat → ByteArray → Int → Int → Int → List Int → List Int → Option (ByteArray)
 | 0, _, _, _, _, _, _ => none
 | k + 1, x3, x4, x345000, x345001, x345002, x345003 => spec_fiText.l1 k x3 x4 0 x345000 x345001 x345002 x345003
def spec_fiText.l1 : Nat → ByteArray → Int → Int → Int → Int → List Int → List Int → Option (ByteArray)
 | 0, _, _, _, _, _, _, _ => none
 | k + 1, x3, x4, x5, x345000, x345001, x345002, x345003 => if x5 < x345000 then ((spec_fiHas.f k x345000 x345001 x345002 x345003 false x5 x4).bind fun t345 => (if t345 = true then (if x3.size + 1 ≤ 9223372036854775807 then (spec_fiText.l1 k (x3 ++ (⟨#[45]⟩ : ByteArray)) x4 (wrap64 (x5 + 1)) x345000 x345001 x345002 x345003) else (none)) else (if x3.size + 1 ≤ 9223372036854775807 then (spec_fiText.l1 k (x3 ++ (⟨#[46]⟩ : ByteArray)) x4 (wrap64 (x5 + 1)) x345000 x345001 x345002 x345003) else (none)))) else (if x4 = x345001 then (some x3) else (if x3.size + 1 ≤ 9223372036854775807 then (spec_fiText.l2 k (x3 ++ (⟨#[47]⟩ : ByteArray)) x4 0 x345000 x345001 x345002 x345003) else (none)))
def spec_fiText.l2 : Nat → ByteArray → Int → Int → Int → Int → List Int → List Int → Option (ByteArray)
 | 0, _, _, _, _, _, _, _ => none
 | k + 1, x3, x4, x6, x345000, x345001, x345002, x345003 => if x6 ≤ x345000 then ((spec_fiHas.f k x345000 x345001 x345002 x345003 true x6 x4).bind fun t346 => (if t346 = true then (if x3.size + 1 ≤ 9223372036854775807 then (spec_fiText.l2 k (x3 ++ (⟨#[124]⟩ : ByteArray)) x4 (wrap64 (x6 + 1)) x345000 x345001 x345002 x345003) else (none)) else (if x3.size + 1 ≤ 9223372036854775807 then (spec_fiText.l2 k (x3 ++ (⟨#[46]⟩ : ByteArray)) x4 (wrap64 (x6 + 1)) x345000 x345001 x345002 x345003) else (none)))) else (spec_fiText.l0 k x3 (wrap64 (x4 + 1)) x345000 x345001 x345002 x345003)
end
def spec_fiText.f (k : Nat) (a0_0 : Int) (a0_1 : Int) (l0_2 : List Int) (l0_3 : List Int) : Option (ByteArray) := spec_fiText.l0 k (⟨#[]⟩ : ByteArray) 0 a0_0 a0_1 l0_2 l0_3
theorem spec_fiText.mono_l : ∀ k, (∀ y0 y1 y2 y3 y4 y5, LeO (spec_fiText.l0 k y0 y1 y2 y3 y4 y5) (spec_fiText.l0 (k + 1) y0 y1 y2 y3 y4 y5)) ∧ (∀ y0 y1 y2 y3 y4 y5, LeO (spec_fiText.j1 k y0 y1 y2 y3 y4 y5) (spec_fiText.j1 (k + 1) y0 y1 y2 y3 y4 y5)) ∧ (∀ y0 y1 y2 y3 y4 y5 y6, LeO (spec_fiText.l1 k y0 y1 y2 y3 y4 y5 y6) (spec_fiText.l1 (k + 1) y0 y1 y2 y3 y4 y5 y6)) ∧ (∀ y0 y1 y2 y3 y4 y5 y6, LeO (spec_fiText.l2 k y0 y1 y2 y3 y4 y5 y6) (spec_fiText.l2 (k + 1) y0 y1 y2 y3 y4 y5 y6))
 | 0 => ⟨fun _ _ _ _ _ _ r h => by simp [spec_fiText.l0] at h, fun _ _ _ _ _ _ r h => by simp [spec_fiText.j1] at h, fun _ _ _ _ _ _ _ r h => by simp [spec_fiText.l1] at h, fun _ _ _ _ _ _ _ r h => by simp [spec_fiText.l2] at h⟩
 | k + 1 => by
  obtain ⟨ih0, ih1, ih2, ih3⟩ := spec_fiText.mono_l k
  refine ⟨?_, ?_, ?_, ?_⟩
  ·intro y0 y1 y2 y3 y4 y5
   unfold spec_fiText.l0
   repeat' first
   | (with_reducible exact ih0 _ _ _ _ _ _)
   | (with_reducible exact ih1 _ _ _ _ _ _)
   | (with_reducible exact ih2 _ _ _ _ _ _ _)
   | (with_reducible exact ih3 _ _ _ _ _ _ _)
   | (with_reducible exact spec_fiHas.mono _ _ _ _ _ _ _ _)
   | (with_reducible exact LeO.refl _)
   | (with_reducible exact LeO.none _)
   | (with_reducible refine LeO.ite ?_ ?_)
   | (with_reducible refine LeO.bind ?_ (fun _ => ?_))
   | exact ih0 _ _ _ _ _ _
   | exact ih1 _ _ _ _ _ _
   | exact ih2 _ _ _ _ _ _ _
   | exact ih3 _ _ _ _ _ _ _
   | exact spec_fiHas.mono _ _ _ _ _ _ _ _
   | exact LeO.none _
   | refine LeO.ite ?_ ?_
   | refine LeO.bind ?_ (fun _ => ?_)
  ·intro y0 y1 y2 y3 y4 y5
   unfold spec_fiText.j1
   repeat' first
   | (with_reducible exact ih0 _ _ _ _ _ _)
   | (with_reducible exact ih1 _ _ _ _ _ _)
   | (with_reducible exact ih2 _ _ _ _ _ _ _)
   | (with_reducible exact ih3 _ _ _ _ _ _ _)
   | (with_reducible exact spec_fiHas.mono _ _ _ _ _ _ _ _)
   | (with_reducible exact LeO.refl _)
   | (with_reducible exact LeO.none _)
   | (with_reducible refine LeO.ite ?_ ?_)
   | (with_reducible refine LeO.bind ?_ (fun _ => ?_))
   | exact ih0 _ _ _ _ _ _
   | exact ih1 _ _ _ _ _ _
   | exact ih2 _ _ _ _ _ _ _
   | exact ih3 _ _ _ _ _ _ _
   | exact spec_fiHas.mono _ _ _ _ _ _ _ _
   | exact LeO.none _
   | refine LeO.ite ?_ ?_
   | refine LeO.bind ?_ (fun _ => ?_)
  ·intro y0 y1 y2 y3 y4 y5 y6
   unfold spec_fiText.l1
   repeat' first
   | (with_reducible exact ih0 _ _ _ _ _ _)
   | (with_reducible exact ih1 _ _ _ _ _ _)
   | (with_reducible exact ih2 _ _ _ _ _ _ _)
   | (with_reducible exact ih3 _ _ _ _ _ _ _)
   | (with_reducible exact spec_fiHas.mono _ _ _ _ _ _ _ _)
   | (with_reducible exact LeO.refl _)
   | (with_reducible exact LeO.none _)
   | (with_reducible refine LeO.ite ?_ ?_)
   | (with_reducible refine LeO.bind ?_ (fun _ => ?_))
   | exact ih0 _ _ _ _ _ _
   | exact ih1 _ _ _ _ _ _
   | exact ih2 _ _ _ _ _ _ _
   | exact ih3 _ _ _ _ _ _ _
   | exact spec_fiHas.mono _ _ _ _ _ _ _ _
   | exact LeO.none _
   | refine LeO.ite ?_ ?_
   | refine LeO.bind ?_ (fun _ => ?_)
  ·intro y0 y1 y2 y3 y4 y5 y6
   unfold spec_fiText.l2
   repeat' first
   | (with_reducible exact ih0 _ _ _ _ _ _)
   | (with_reducible exact ih1 _ _ _ _ _ _)
   | (with_reducible exact ih2 _ _ _ _ _ _ _)
   | (with_reducible exact ih3 _ _ _ _ _ _ _)
   | (with_reducible exact spec_fiHas.mono _ _ _ _ _ _ _ _)
   | (with_reducible exact LeO.refl _)
   | (with_reducible exact LeO.none _)
   | (with_reducible refine LeO.ite ?_ ?_)
   | (with_reducible refine LeO.bind ?_ (fun _ => ?_))
   | exact ih0 _ _ _ _ _ _
   | exact ih1 _ _ _ _ _ _
   | exact ih2 _ _ _ _ _ _ _
   | exact ih3 _ _ _ _ _ _ _
   | exact spec_fiHas.mono _ _ _ _ _ _ _ _
   | exact LeO.none _
   | refine LeO.ite ?_ ?_
   | refine LeO.bind ?_ (fun _ => ?_)
theorem spec_fiText.mono : ∀ a0 a1 a2 a3 k, LeO (spec_fiText.f k a0 a1 a2 a3) (spec_fiText.f (k + 1) a0 a1 a2 a3) := by
 intro a0 a1 a2 a3 k
 obtain ⟨ih0, ih1, ih2, ih3⟩ := spec_fiText.mono_l k
 unfold spec_fiText.f
 repeat' first
   | (with_reducible exact ih0 _ _ _ _ _ _)
   | (with_reducible exact ih1 _ _ _ _ _ _)
   | (with_reducible exact ih2 _ _ _ _ _ _ _)
   | (with_reducible exact ih3 _ _ _ _ _ _ _)
   | (with_reducible exact spec_fiHas.mono _ _ _ _ _ _ _ _)
   | (with_reducible exact LeO.refl _)
   | (with_reducible exact LeO.none _)
   | (with_reducible refine LeO.ite ?_ ?_)
   | (with_reducible refine LeO.bind ?_ (fun _ => ?_))
   | exact ih0 _ _ _ _ _ _
   | exact ih1 _ _ _ _ _ _
   | exact ih2 _ _ _ _ _ _ _
   | exact ih3 _ _ _ _ _ _ _
   | exact spec_fiHas.mono _ _ _ _ _ _ _ _
   | exact LeO.none _
   | refine LeO.ite ?_ ?_
   | refine LeO.bind ?_ (fun _ => ?_)
set_option maxHeartbeats 8000000 in
set_option maxRecDepth 100000 in
theorem spec_fiText.calls (k : Nat) (a0_0 : Int) (a0_1 : Int) (A0_2 : Option Addr) (c0_2 : Nat) (l0_2 : List Int) (A0_3 : Option Addr) (c0_3 : Nat) (l0_3 : List Int) (r : ByteArray) (w : World) (hr0_2 : Kd.C (Kd.int .i64) w A0_2 l0_2.length l0_2) (hc0_2 : l0_2.length ≤ c0_2) (hr0_3 : Kd.C (Kd.int .i64) w A0_3 l0_3.length l0_3) (hc0_3 : l0_3.length ≤ c0_3) (h : spec_fiText.f k a0_0 a0_1 l0_2 l0_3 = some r) :
  Calls Tryd.prog 14 #[.agg #[.int .i64 a0_0, .int .i64 a0_1, .slice A0_2 l0_2.length c0_2, .slice A0_3 l0_3.length c0_3]] w fun e w' => e = .returned (.string r) ∧ Below w.heap.size w w' := by
 have hu30 := Tryd.underlying30
 have HR0_2 := Aside0.mk hr0_2
 have HC0_2 := Aside0.mk hc0_2
 clear hr0_2 hc0_2
 have HR0_3 := Aside0.mk hr0_3
 have HC0_3 := Aside0.mk hc0_3
 clear hr0_3 hc0_3
 have HB := Aside0.mk (Below.refl w.heap.size w)
 have H : (spec_fiText.l0 k (⟨#[]⟩ : ByteArray) 0 a0_0 a0_1 l0_2 l0_3) = some r := h
 clear h
 have H' := Aside0.mk H
 clear H
 go_enter Tryd.func14, Tryd.ntmps14
 go_wp2_with (first | ((with_reducible refine gate_dst (N := 1) rfl ?_); refine boxE_ (N := 1) (cs := #[.int .i64 a0_0, .int .i64 a0_1, .slice A0_2 l0_2.length c0_2, .slice A0_3 l0_3.length c0_3]) (t := 30) ?_; intro gb344 hg w2 hbox hb; have n0_ := Aside0.mk (below_step (bl0_ HB.out) hb); have n1_ := Aside0.mk (hbox); have n2_ := Aside0.mk ((bs0_ hg HB.out : w.heap.size ≤ gb344)); have n3_ := Aside0.mk ((bs0_ hg HB.out : w.heap.size ≤ gb344)); clear HB; have HB := n0_; have BK344 := n1_; have GW344 := n2_; have GE344 := n3_; clear n0_ n1_ n2_ n3_; clear hb hbox hg))
 go_loopg [3, 4] k (fun kq v3 v4 w' => ∃ (x3_1 : ByteArray) (x4_1 : Int), v3 = .string x3_1 ∧ v4 = .int .i64 x4_1 ∧ Aside0 (spec_fiText.l0 kq x3_1 x4_1 a0_0 a0_1 l0_2 l0_3 = some r) ∧ Aside0 (kq ≤ k) ∧ Aside0 (w'.heap[gb344]? = some (.cells #[.int .i64 a0_0, .int .i64 a0_1, (.slice A0_2 l0_2.length c0_2), (.slice A0_3 l0_3.length c0_3)] 30 (0, 0))) ∧ Aside0 (Below w.heap.size w w'))
 case atStart => exact ⟨((⟨#[]⟩ : ByteArray)), (0), rs_, rs_, H', ⟨Nat.le_refl _⟩, ⟨bk_ BK344.out⟩, ⟨bl1_ HB.out GE344.out⟩⟩
 case round =>
  clear H'
  try clear c1
  try clear p2
  obtain ⟨x3_1, x4_1, rfl, rfl, HA, HK1, BK344, HB⟩ := hrel
  cases gk with
  | zero => exact absurd HA.out (by simp [spec_fiText.l0])
  | succ k1 =>
   have H := HA.out
   clear HA
   simp only [spec_fiText.l0] at H
   by_cases c3 : x4_1 ≤ a0_1
   ·rw [if_pos c3] at H
    have c3b0 : decide (x4_1 ≤ a0_1) = true := decide_eq_true c3
    clear c3
    have HC4 := Aside0.mk H
    clear H
    have hcz5_0 : wr.cell? ⟨gb344, 0, none⟩ = some (.int .i64 a0_0) := (blk_cell BK344.out 0).trans rfl
    have hcz5_1 : wr.cell? ⟨gb344, 1, none⟩ = some (.int .i64 a0_1) := (blk_cell BK344.out 1).trans rfl
    have hcz5_2 : wr.cell? ⟨gb344, 2, none⟩ = some (.slice A0_2 l0_2.length c0_2) := (blk_cell BK344.out 2).trans rfl
    have hcz5_3 : wr.cell? ⟨gb344, 3, none⟩ = some (.slice A0_3 l0_3.length c0_3) := (blk_cell BK344.out 3).trans rfl
    have hfz5_0 := blk_frozen BK344.out 0
    have hfz5_1 := blk_frozen BK344.out 1
    have hfz5_2 := blk_frozen BK344.out 2
    have hfz5_3 := blk_frozen BK344.out 3
    go_upto_if 14 with (fail)
    go_cut [3] (fun v3 wc => ∃ (kq : Nat) (x3_3 : ByteArray), v3 = .string x3_3 ∧ Aside0 (spec_fiText.j1 kq x3_3 x4_1 a0_0 a0_1 l0_2 l0_3 = some r) ∧ Aside0 (kq ≤ k1) ∧ Aside0 (wc.heap[gb344]? = some (.cells #[.int .i64 a0_0, .int .i64 a0_1, (.slice A0_2 l0_2.length c0_2), (.slice A0_3 l0_3.length c0_3)] 30 (0, 0))) ∧ Aside0 (Below w.heap.size w wc))
    case first =>
     have H := HC4.out
     clear HC4
     by_cases c6 : x4_1 > 0
     ·rw [if_pos c6] at H
      have c6b0 : decide (0 < x4_1) = true := decide_eq_true c6
      clear c6
      (first | rw [c6b0] | (simp only [i64_w, i32_w]; rw [c6b0]) | skip)
      by_cases c7 : x3_1.size + 1 ≤ 9223372036854775807
      ·rw [if_pos c7] at H
       have c7b0 := eq_true c7
       have c7b1 : decide (x3_1.size + 1 ≤ 9223372036854775807) = true := decide_eq_true c7
       try have c7b2 : (9223372036854775807 < x3_1.size + 1) = False := eq_false (Nat.not_lt.2 c7)
       have H' := Aside0.mk H
       clear H
       go_wp2
       go_meet
       case rel => exact ⟨_, (x3_1 ++ (⟨#[47]⟩ : ByteArray)), rs_, H', ⟨by have := HK1.out; first | omega | exact Nat.le_refl _⟩, ⟨bk_ BK344.out⟩, ⟨bl1_ HB.out GE344.out⟩⟩
      ·rw [if_neg c7] at H
       exact absurd H (by simp)
     ·rw [if_neg c6] at H
      have c6b0 : decide (0 < x4_1) = false := decide_eq_false c6
      clear c6
      (first | rw [c6b0] | (simp only [i64_w, i32_w]; rw [c6b0]) | skip)
      have H' := Aside0.mk H
      clear H
      go_wp2
      go_meet
      case rel => exact ⟨_, (x3_1), rs_, H', ⟨by have := HK1.out; first | omega | exact Nat.le_refl _⟩, ⟨bk_ BK344.out⟩, ⟨bl1_ HB.out GE344.out⟩⟩
    case rest =>
     clear HC4
     try clear c1
     try clear p2
     try clear c3
     try clear c3b0
     try clear c6
     try clear c6b0
     try clear c7
     try clear c7b0
     try clear c7b1
     try clear c7b2
     try clear hcz5_0
     try clear hcz5_1
     try clear hcz5_2
     try clear hcz5_3
     try clear hfz5_0
     try clear hfz5_1
     try clear hfz5_2
     try clear hfz5_3
     try clear p2
     obtain ⟨kq, x3_3, rfl, HA, HJ3, BK344, HB⟩ := hcut
     cases kq with
     | zero => exact absurd HA.out (by simp [spec_fiText.j1])
     | succ kj3 =>
      have H := HA.out
      clear HA
      simp only [spec_fiText.j1] at H
      have H' := Aside0.mk H
      clear H
      go_wp2
      go_loopg [3, 5] kj3 (fun kq v3 v5 w' => ∃ (x3_3 : ByteArray) (x5_3 : Int), v3 = .string x3_3 ∧ v5 = .int .i64 x5_3 ∧ Aside0 (spec_fiText.l1 kq x3_3 x4_1 x5_3 a0_0 a0_1 l0_2 l0_3 = some r) ∧ Aside0 (kq ≤ kj3) ∧ Aside0 (w'.heap[gb344]? = some (.cells #[.int .i64 a0_0, .int .i64 a0_1, (.slice A0_2 l0_2.length c0_2), (.slice A0_3 l0_3.length c0_3)] 30 (0, 0))) ∧ Aside0 (Below w.heap.size w w'))
      case atStart => exact ⟨(x3_3), (0), rs_, rs_, H', ⟨Nat.le_refl _⟩, ⟨bk_ BK344.out⟩, ⟨bl1_ HB.out GE344.out⟩⟩
      case round =>
       clear H'
       try clear c1
       try clear p2
       try clear c3
       try clear c3b0
       try clear c6
       try clear c6b0
       try clear c7
       try clear c7b0
       try clear c7b1
       try clear c7b2
       try clear hcz5_0
       try clear hcz5_1
       try clear hcz5_2
       try clear hcz5_3
       try clear hfz5_0
       try clear hfz5_1
       try clear hfz5_2
       try clear hfz5_3
       try clear p2
       obtain ⟨x3_3, x5_3, rfl, rfl, HA, HK3, BK344, HB⟩ := hrel
       cases gk with
       | zero => exact absurd HA.out (by simp [spec_fiText.l1])
       | succ k3 =>
        have H := HA.out
        clear HA
        simp only [spec_fiText.l1] at H
        by_cases c8 : x5_3 < a0_0
        ·rw [if_pos c8] at H
         have c8b0 : decide (x5_3 < a0_0) = true := decide_eq_true c8
         clear c8
         replace H := Option.bind_eq_some_iff.mp H
         obtain ⟨t345, A90, H⟩ := H
         replace H : (if t345 = true then (if x3_3.size + 1 ≤ 9223372036854775807 then (spec_fiText.l1 k3 (x3_3 ++ (⟨#[45]⟩ : ByteArray)) x4_1 (wrap64 (x5_3 + 1)) a0_0 a0_1 l0_2 l0_3) else (none)) else (if x3_3.size + 1 ≤ 9223372036854775807 then (spec_fiText.l1 k3 (x3_3 ++ (⟨#[46]⟩ : ByteArray)) x4_1 (wrap64 (x5_3 + 1)) a0_0 a0_1 l0_2 l0_3) else (none))) = some r := H
         have A9 := Aside0.mk A90
         clear A90
         by_cases c10 : t345 = true
         ·subst c10
          have H1 : (if x3_3.size + 1 ≤ 9223372036854775807 then (spec_fiText.l1 k3 (x3_3 ++ (⟨#[45]⟩ : ByteArray)) x4_1 (wrap64 (x5_3 + 1)) a0_0 a0_1 l0_2 l0_3) else (none)) = some r := by rw [if_pos rfl] at H; exact H
          clear H
          have H := H1
          clear H1
          by_cases c11 : x3_3.size + 1 ≤ 9223372036854775807
          ·rw [if_pos c11] at H
           have c11b0 := eq_true c11
           have c11b1 : decide (x3_3.size + 1 ≤ 9223372036854775807) = true := decide_eq_true c11
           try have c11b2 : (9223372036854775807 < x3_3.size + 1) = False := eq_false (Nat.not_lt.2 c11)
           have H' := Aside0.mk H
           clear H
           have hcz12_0 : wr.cell? ⟨gb344, 0, none⟩ = some (.int .i64 a0_0) := (blk_cell BK344.out 0).trans rfl
           have hcz12_1 : wr.cell? ⟨gb344, 1, none⟩ = some (.int .i64 a0_1) := (blk_cell BK344.out 1).trans rfl
           have hcz12_2 : wr.cell? ⟨gb344, 2, none⟩ = some (.slice A0_2 l0_2.length c0_2) := (blk_cell BK344.out 2).trans rfl
           have hcz12_3 : wr.cell? ⟨gb344, 3, none⟩ = some (.slice A0_3 l0_3.length c0_3) := (blk_cell BK344.out 3).trans rfl
           have hfz12_0 := blk_frozen BK344.out 0
           have hfz12_1 := blk_frozen BK344.out 1
           have hfz12_2 := blk_frozen BK344.out 2
           have hfz12_3 := blk_frozen BK344.out 3
           go_wp2_with (first | ((with_reducible refine gate_callee (f := 31) rfl ?_); refine goesL_ (some 26) rfl rfl Tryd.func31 (by kernel_rfl) rfl #[.agg #[.int .i64 a0_0, .int .i64 a0_1, .slice A0_2 l0_2.length c0_2, .slice A0_3 l0_3.length c0_3], .bool false, .int .i64 x5_3, .int .i64 x4_1] rfl ob_ ?_; (with_reducible refine (spec_fiHas.calls k3 a0_0 a0_1 _ _ l0_2 _ _ l0_3 false x5_3 x4_1 true _ ?side1 ?side2 ?side3 ?side4 A9.out).mono ?_); (case side1 => exact kc_ (Kd.C_below HR0_2.out HB.out)); (case side2 => exact HC0_2.out); (case side3 => exact kc_ (Kd.C_below HR0_3.out HB.out)); (case side4 => exact HC0_3.out); rintro e w13 ⟨rfl, hb⟩; refine ⟨_, rfl, ?_⟩; have n0_ := Aside0.mk (bb_ BK344.out hb); have n1_ := Aside0.mk (below_step (bl1_ HB.out GE344.out) hb); clear BK344; clear HB; have BK344 := n0_; have HB := n1_; clear n0_ n1_; (try clear hb); (try clear hb2); (try clear hk); (try clear hi)))
           go_roundg k3
           case measure => have := HK1.out; have := HJ3.out; have := HK3.out; omega
           case rel => exact ⟨(x3_3 ++ (⟨#[45]⟩ : ByteArray)), (wrap64 (x5_3 + 1)), rs_, rs_, H', ⟨by have := HK1.out; have := HJ3.out; have := HK3.out; omega⟩, ⟨bk_ BK344.out⟩, ⟨bl1_ HB.out GE344.out⟩⟩
          ·rw [if_neg c11] at H
           exact absurd H (by simp)
         ·replace c10 := Bool.eq_false_iff.mpr c10
          subst c10
          have H1 : (if x3_3.size + 1 ≤ 9223372036854775807 then (spec_fiText.l1 k3 (x3_3 ++ (⟨#[46]⟩ : ByteArray)) x4_1 (wrap64 (x5_3 + 1)) a0_0 a0_1 l0_2 l0_3) else (none)) = some r := by rw [if_neg (show ¬ (false = true) by decide)] at H; exact H
          clear H
          have H := H1
          clear H1
          by_cases c14 : x3_3.size + 1 ≤ 9223372036854775807
          ·rw [if_pos c14] at H
           have c14b0 := eq_true c14
           have c14b1 : decide (x3_3.size + 1 ≤ 9223372036854775807) = true := decide_eq_true c14
           try have c14b2 : (9223372036854775807 < x3_3.size + 1) = False := eq_false (Nat.not_lt.2 c14)
           have H' := Aside0.mk H
           clear H
           have hcz15_0 : wr.cell? ⟨gb344, 0, none⟩ = some (.int .i64 a0_0) := (blk_cell BK344.out 0).trans rfl
           have hcz15_1 : wr.cell? ⟨gb344, 1, none⟩ = some (.int .i64 a0_1) := (blk_cell BK344.out 1).trans rfl
           have hcz15_2 : wr.cell? ⟨gb344, 2, none⟩ = some (.slice A0_2 l0_2.length c0_2) := (blk_cell BK344.out 2).trans rfl
           have hcz15_3 : wr.cell? ⟨gb344, 3, none⟩ = some (.slice A0_3 l0_3.length c0_3) := (blk_cell BK344.out 3).trans rfl
           have hfz15_0 := blk_frozen BK344.out 0
           have hfz15_1 := blk_frozen BK344.out 1
           have hfz15_2 := blk_frozen BK344.out 2
           have hfz15_3 := blk_frozen BK344.out 3
           go_wp2_with (first | ((with_reducible refine gate_callee (f := 31) rfl ?_); refine goesL_ (some 26) rfl rfl Tryd.func31 (by kernel_rfl) rfl #[.agg #[.int .i64 a0_0, .int .i64 a0_1, .slice A0_2 l0_2.length c0_2, .slice A0_3 l0_3.length c0_3], .bool false, .int .i64 x5_3, .int .i64 x4_1] rfl ob_ ?_; (with_reducible refine (spec_fiHas.calls k3 a0_0 a0_1 _ _ l0_2 _ _ l0_3 false x5_3 x4_1 false _ ?side1 ?side2 ?side3 ?side4 A9.out).mono ?_); (case side1 => exact kc_ (Kd.C_below HR0_2.out HB.out)); (case side2 => exact HC0_2.out); (case side3 => exact kc_ (Kd.C_below HR0_3.out HB.out)); (case side4 => exact HC0_3.out); rintro e w16 ⟨rfl, hb⟩; refine ⟨_, rfl, ?_⟩; have n0_ := Aside0.mk (bb_ BK344.out hb); have n1_ := Aside0.mk (below_step (bl1_ HB.out GE344.out) hb); clear BK344; clear HB; have BK344 := n0_; have HB := n1_; clear n0_ n1_; (try clear hb); (try clear hb2); (try clear hk); (try clear hi)))
           go_roundg k3
           case measure => have := HK1.out; have := HJ3.out; have := HK3.out; omega
           case rel => exact ⟨(x3_3 ++ (⟨#[46]⟩ : ByteArray)), (wrap64 (x5_3 + 1)), rs_, rs_, H', ⟨by have := HK1.out; have := HJ3.out; have := HK3.out; omega⟩, ⟨bk_ BK344.out⟩, ⟨bl1_ HB.out GE344.out⟩⟩
          ·rw [if_neg c14] at H
           exact absurd H (by simp)
        ·rw [if_neg c8] at H
         have c8b0 : decide (x5_3 < a0_0) = false := decide_eq_false c8
         clear c8
         by_cases c17 : x4_1 = a0_1
         ·rw [if_pos c17] at H
          have c17b0 : (x4_1 == a0_1) = true := beq_iff_eq.mpr c17
          have c17b1 : (x4_1 != a0_1) = false := bne_eq_false_iff_eq.mpr c17
          clear c17
          obtain rfl := Option.some.inj H
          have hcz18_0 : wr.cell? ⟨gb344, 0, none⟩ = some (.int .i64 a0_0) := (blk_cell BK344.out 0).trans rfl
          have hcz18_1 : wr.cell? ⟨gb344, 1, none⟩ = some (.int .i64 a0_1) := (blk_cell BK344.out 1).trans rfl
          have hcz18_2 : wr.cell? ⟨gb344, 2, none⟩ = some (.slice A0_2 l0_2.length c0_2) := (blk_cell BK344.out 2).trans rfl
          have hcz18_3 : wr.cell? ⟨gb344, 3, none⟩ = some (.slice A0_3 l0_3.length c0_3) := (blk_cell BK344.out 3).trans rfl
          have hfz18_0 := blk_frozen BK344.out 0
          have hfz18_1 := blk_frozen BK344.out 1
          have hfz18_2 := blk_frozen BK344.out 2
          have hfz18_3 := blk_frozen BK344.out 3
          go_wp2
          go_ret
          exact ⟨er_, bl1_ HB.out GE344.out⟩
         ·rw [if_neg c17] at H
          have c17b0 : (x4_1 == a0_1) = false := beq_eq_false_iff_ne.mpr c17
          have c17b1 : (x4_1 != a0_1) = true := bne_iff_ne.mpr c17
          by_cases c19 : x3_3.size + 1 ≤ 9223372036854775807
          ·rw [if_pos c19] at H
           have c19b0 := eq_true c19
           have c19b1 : decide (x3_3.size + 1 ≤ 9223372036854775807) = true := decide_eq_true c19
           try have c19b2 : (9223372036854775807 < x3_3.size + 1) = False := eq_false (Nat.not_lt.2 c19)
           have H' := Aside0.mk H
           clear H
           have hcz20_0 : wr.cell? ⟨gb344, 0, none⟩ = some (.int .i64 a0_0) := (blk_cell BK344.out 0).trans rfl
           have hcz20_1 : wr.cell? ⟨gb344, 1, none⟩ = some (.int .i64 a0_1) := (blk_cell BK344.out 1).trans rfl
           have hcz20_2 : wr.cell? ⟨gb344, 2, none⟩ = some (.slice A0_2 l0_2.length c0_2) := (blk_cell BK344.out 2).trans rfl
           have hcz20_3 : wr.cell? ⟨gb344, 3, none⟩ = some (.slice A0_3 l0_3.length c0_3) := (blk_cell BK344.out 3).trans rfl
           have hfz20_0 := blk_frozen BK344.out 0
           have hfz20_1 := blk_frozen BK344.out 1
           have hfz20_2 := blk_frozen BK344.out 2
           have hfz20_3 := blk_frozen BK344.out 3
           go_wp2
           go_loopg [3, 6] k3 (fun kq v3 v6 w' => ∃ (x3_4 : ByteArray) (x6_4 : Int), v3 = .string x3_4 ∧ v6 = .int .i64 x6_4 ∧ Aside0 (spec_fiText.l2 kq x3_4 x4_1 x6_4 a0_0 a0_1 l0_2 l0_3 = some r) ∧ Aside0 (kq ≤ k3) ∧ Aside0 (w'.heap[gb344]? = some (.cells #[.int .i64 a0_0, .int .i64 a0_1, (.slice A0_2 l0_2.length c0_2), (.slice A0_3 l0_3.length c0_3)] 30 (0, 0))) ∧ Aside0 (Below w.heap.size w w'))
           case atStart => exact ⟨(x3_3 ++ (⟨#[47]⟩ : ByteArray)), (0), rs_, rs_, H', ⟨Nat.le_refl _⟩, ⟨bk_ BK344.out⟩, ⟨bl1_ HB.out GE344.out⟩⟩
           case round =>
            clear H'
            try clear c1
            try clear p2
            try clear c3
            try clear c3b0
            try clear c6
            try clear c6b0
            try clear p6
            try clear c7
            try clear c7b0
            try clear c7b1
            try clear c7b2
            try clear c8
            try clear c8b0
            try clear c10
            try clear c11
            try clear c11b0
            try clear c11b1
            try clear c11b2
            try clear c14
            try clear c14b0
            try clear c14b1
            try clear c14b2
            try clear c17
            try clear c17b0
            try clear c17b1
            try clear c19
            try clear c19b0
            try clear c19b1
            try clear c19b2
            try clear hcz12_0
            try clear hcz12_1
            try clear hcz12_2
            try clear hcz12_3
            try clear hcz15_0
            try clear hcz15_1
            try clear hcz15_2
            try clear hcz15_3
            try clear hcz18_0
            try clear hcz18_1
            try clear hcz18_2
            try clear hcz18_3
            try clear hcz20_0
            try clear hcz20_1
            try clear hcz20_2
            try clear hcz20_3
            try clear hcz5_0
            try clear hcz5_1
            try clear hcz5_2
            try clear hcz5_3
            try clear hfz12_0
            try clear hfz12_1
            try clear hfz12_2
            try clear hfz12_3
            try clear hfz15_0
            try clear hfz15_1
            try clear hfz15_2
            try clear hfz15_3
            try clear hfz18_0
            try clear hfz18_1
            try clear hfz18_2
            try clear hfz18_3
            try clear hfz20_0
            try clear hfz20_1
            try clear hfz20_2
            try clear hfz20_3
            try clear hfz5_0
            try clear hfz5_1
            try clear hfz5_2
            try clear hfz5_3
            try clear p2
            obtain ⟨x3_4, x6_4, rfl, rfl, HA, HK4, BK344, HB⟩ := hrel
            cases gk with
            | zero => exact absurd HA.out (by simp [spec_fiText.l2])
            | succ k4 =>
             have H := HA.out
             clear HA
             simp only [spec_fiText.l2] at H
             by_cases c21 : x6_4 ≤ a0_0
             ·rw [if_pos c21] at H
              have c21b0 : decide (x6_4 ≤ a0_0) = true := decide_eq_true c21
              clear c21
              replace H := Option.bind_eq_some_iff.mp H
              obtain ⟨t346, A220, H⟩ := H
              replace H : (if t346 = true then (if x3_4.size + 1 ≤ 9223372036854775807 then (spec_fiText.l2 k4 (x3_4 ++ (⟨#[124]⟩ : ByteArray)) x4_1 (wrap64 (x6_4 + 1)) a0_0 a0_1 l0_2 l0_3) else (none)) else (if x3_4.size + 1 ≤ 9223372036854775807 then (spec_fiText.l2 k4 (x3_4 ++ (⟨#[46]⟩ : ByteArray)) x4_1 (wrap64 (x6_4 + 1)) a0_0 a0_1 l0_2 l0_3) else (none))) = some r := H
              have A22 := Aside0.mk A220
              clear A220
              by_cases c23 : t346 = true
              ·subst c23
               have H1 : (if x3_4.size + 1 ≤ 9223372036854775807 then (spec_fiText.l2 k4 (x3_4 ++ (⟨#[124]⟩ : ByteArray)) x4_1 (wrap64 (x6_4 + 1)) a0_0 a0_1 l0_2 l0_3) else (none)) = some r := by rw [if_pos rfl] at H; exact H
               clear H
               have H := H1
               clear H1
               by_cases c24 : x3_4.size + 1 ≤ 9223372036854775807
               ·rw [if_pos c24] at H
                have c24b0 := eq_true c24
                have c24b1 : decide (x3_4.size + 1 ≤ 9223372036854775807) = true := decide_eq_true c24
                try have c24b2 : (9223372036854775807 < x3_4.size + 1) = False := eq_false (Nat.not_lt.2 c24)
                have H' := Aside0.mk H
                clear H
                have hcz25_0 : wr.cell? ⟨gb344, 0, none⟩ = some (.int .i64 a0_0) := (blk_cell BK344.out 0).trans rfl
                have hcz25_1 : wr.cell? ⟨gb344, 1, none⟩ = some (.int .i64 a0_1) := (blk_cell BK344.out 1).trans rfl
                have hcz25_2 : wr.cell? ⟨gb344, 2, none⟩ = some (.slice A0_2 l0_2.length c0_2) := (blk_cell BK344.out 2).trans rfl
                have hcz25_3 : wr.cell? ⟨gb344, 3, none⟩ = some (.slice A0_3 l0_3.length c0_3) := (blk_cell BK344.out 3).trans rfl
                have hfz25_0 := blk_frozen BK344.out 0
                have hfz25_1 := blk_frozen BK344.out 1
                have hfz25_2 := blk_frozen BK344.out 2
                have hfz25_3 := blk_frozen BK344.out 3
                go_wp2_with (first | ((with_reducible refine gate_callee (f := 31) rfl ?_); refine goesL_ (some 46) rfl rfl Tryd.func31 (by kernel_rfl) rfl #[.agg #[.int .i64 a0_0, .int .i64 a0_1, .slice A0_2 l0_2.length c0_2, .slice A0_3 l0_3.length c0_3], .bool true, .int .i64 x6_4, .int .i64 x4_1] rfl ob_ ?_; (with_reducible refine (spec_fiHas.calls k4 a0_0 a0_1 _ _ l0_2 _ _ l0_3 true x6_4 x4_1 true _ ?side1 ?side2 ?side3 ?side4 A22.out).mono ?_); (case side1 => exact kc_ (Kd.C_below HR0_2.out HB.out)); (case side2 => exact HC0_2.out); (case side3 => exact kc_ (Kd.C_below HR0_3.out HB.out)); (case side4 => exact HC0_3.out); rintro e w26 ⟨rfl, hb⟩; refine ⟨_, rfl, ?_⟩; have n0_ := Aside0.mk (bb_ BK344.out hb); have n1_ := Aside0.mk (below_step (bl1_ HB.out GE344.out) hb); clear BK344; clear HB; have BK344 := n0_; have HB := n1_; clear n0_ n1_; (try clear hb); (try clear hb2); (try clear hk); (try clear hi)))
                go_roundg k4
                case measure => have := HK1.out; have := HJ3.out; have := HK3.out; have := HK4.out; omega
                case rel => exact ⟨(x3_4 ++ (⟨#[124]⟩ : ByteArray)), (wrap64 (x6_4 + 1)), rs_, rs_, H', ⟨by have := HK1.out; have := HJ3.out; have := HK3.out; have := HK4.out; omega⟩, ⟨bk_ BK344.out⟩, ⟨bl1_ HB.out GE344.out⟩⟩
               ·rw [if_neg c24] at H
                exact absurd H (by simp)
              ·replace c23 := Bool.eq_false_iff.mpr c23
               subst c23
               have H1 : (if x3_4.size + 1 ≤ 9223372036854775807 then (spec_fiText.l2 k4 (x3_4 ++ (⟨#[46]⟩ : ByteArray)) x4_1 (wrap64 (x6_4 + 1)) a0_0 a0_1 l0_2 l0_3) else (none)) = some r := by rw [if_neg (show ¬ (false = true) by decide)] at H; exact H
               clear H
               have H := H1
               clear H1
               by_cases c27 : x3_4.size + 1 ≤ 9223372036854775807
               ·rw [if_pos c27] at H
                have c27b0 := eq_true c27
                have c27b1 : decide (x3_4.size + 1 ≤ 9223372036854775807) = true := decide_eq_true c27
                try have c27b2 : (9223372036854775807 < x3_4.size + 1) = False := eq_false (Nat.not_lt.2 c27)
                have H' := Aside0.mk H
                clear H
                have hcz28_0 : wr.cell? ⟨gb344, 0, none⟩ = some (.int .i64 a0_0) := (blk_cell BK344.out 0).trans rfl
                have hcz28_1 : wr.cell? ⟨gb344, 1, none⟩ = some (.int .i64 a0_1) := (blk_cell BK344.out 1).trans rfl
                have hcz28_2 : wr.cell? ⟨gb344, 2, none⟩ = some (.slice A0_2 l0_2.length c0_2) := (blk_cell BK344.out 2).trans rfl
                have hcz28_3 : wr.cell? ⟨gb344, 3, none⟩ = some (.slice A0_3 l0_3.length c0_3) := (blk_cell BK344.out 3).trans rfl
                have hfz28_0 := blk_frozen BK344.out 0
                have hfz28_1 := blk_frozen BK344.out 1
                have hfz28_2 := blk_frozen BK344.out 2
                have hfz28_3 := blk_frozen BK344.out 3
                go_wp2_with (first | ((with_reducible refine gate_callee (f := 31) rfl ?_); refine goesL_ (some 46) rfl rfl Tryd.func31 (by kernel_rfl) rfl #[.agg #[.int .i64 a0_0, .int .i64 a0_1, .slice A0_2 l0_2.length c0_2, .slice A0_3 l0_3.length c0_3], .bool true, .int .i64 x6_4, .int .i64 x4_1] rfl ob_ ?_; (with_reducible refine (spec_fiHas.calls k4 a0_0 a0_1 _ _ l0_2 _ _ l0_3 true x6_4 x4_1 false _ ?side1 ?side2 ?side3 ?side4 A22.out).mono ?_); (case side1 => exact kc_ (Kd.C_below HR0_2.out HB.out)); (case side2 => exact HC0_2.out); (case side3 => exact kc_ (Kd.C_below HR0_3.out HB.out)); (case side4 => exact HC0_3.out); rintro e w29 ⟨rfl, hb⟩; refine ⟨_, rfl, ?_⟩; have n0_ := Aside0.mk (bb_ BK344.out hb); have n1_ := Aside0.mk (below_step (bl1_ HB.out GE344.out) hb); clear BK344; clear HB; have BK344 := n0_; have HB := n1_; clear n0_ n1_; (try clear hb); (try clear hb2); (try clear hk); (try clear hi)))
                go_roundg k4
                case measure => have := HK1.out; have := HJ3.out; have := HK3.out; have := HK4.out; omega
                case rel => exact ⟨(x3_4 ++ (⟨#[46]⟩ : ByteArray)), (wrap64 (x6_4 + 1)), rs_, rs_, H', ⟨by have := HK1.out; have := HJ3.out; have := HK3.out; have := HK4.out; omega⟩, ⟨bk_ BK344.out⟩, ⟨bl1_ HB.out GE344.out⟩⟩
               ·rw [if_neg c27] at H
                exact absurd H (by simp)
             ·rw [if_neg c21] at H
              have c21b0 : decide (x6_4 ≤ a0_0) = false := decide_eq_false c21
              clear c21
              have H' := Aside0.mk H
              clear H
              have hcz30_0 : wr.cell? ⟨gb344, 0, none⟩ = some (.int .i64 a0_0) := (blk_cell BK344.out 0).trans rfl
              have hcz30_1 : wr.cell? ⟨gb344, 1, none⟩ = some (.int .i64 a0_1) := (blk_cell BK344.out 1).trans rfl
              have hcz30_2 : wr.cell? ⟨gb344, 2, none⟩ = some (.slice A0_2 l0_2.length c0_2) := (blk_cell BK344.out 2).trans rfl
              have hcz30_3 : wr.cell? ⟨gb344, 3, none⟩ = some (.slice A0_3 l0_3.length c0_3) := (blk_cell BK344.out 3).trans rfl
              have hfz30_0 := blk_frozen BK344.out 0
              have hfz30_1 := blk_frozen BK344.out 1
              have hfz30_2 := blk_frozen BK344.out 2
              have hfz30_3 := blk_frozen BK344.out 3
              go_wp2
              go_roundg k4
              case measure => have := HK1.out; have := HJ3.out; have := HK3.out; have := HK4.out; omega
              case rel => exact ⟨(x3_4), (wrap64 (x4_1 + 1)), rs_, rs_, H', ⟨by have := HK1.out; have := HJ3.out; have := HK3.out; have := HK4.out; omega⟩, ⟨bk_ BK344.out⟩, ⟨bl1_ HB.out GE344.out⟩⟩
          ·rw [if_neg c19] at H
           exact absurd H (by simp)
   ·rw [if_neg c3] at H
    have c3b0 : decide (x4_1 ≤ a0_1) = false := decide_eq_false c3
    clear c3
    obtain rfl := Option.some.inj H
    have hcz31_0 : wr.cell? ⟨gb344, 0, none⟩ = some (.int .i64 a0_0) := (blk_cell BK344.out 0).trans rfl
    have hcz31_1 : wr.cell? ⟨gb344, 1, none⟩ = some (.int .i64 a0_1) := (blk_cell BK344.out 1).trans rfl
    have hcz31_2 : wr.cell? ⟨gb344, 2, none⟩ = some (.slice A0_2 l0_2.length c0_2) := (blk_cell BK344.out 2).trans rfl
    have hcz31_3 : wr.cell? ⟨gb344, 3, none⟩ = some (.slice A0_3 l0_3.length c0_3) := (blk_cell BK344.out 3).trans rfl
    have hfz31_0 := blk_frozen BK344.out 0
    have hfz31_1 := blk_frozen BK344.out 1
    have hfz31_2 := blk_frozen BK344.out 2
    have hfz31_3 := blk_frozen BK344.out 3
    go_wp2
    go_ret
    exact ⟨er_, bl1_ HB.out GE344.out⟩

end Go.Proofs.YteaglkpplgbpaaaDoor.P
