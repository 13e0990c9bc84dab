/- For every input the law FnExactIsRingFigure answers true: the program tells what the reference tells; no condition. (part 4 of the proof; the words of the kit's print tool and the texts of this seat, merged by a program) -/
import Derived.Test.YtjhndaehdbjgkaaMRGF3
namespace Go.Proofs.Ytjhndaehdbjgkaa.P
open Go.RowKit Go.Proofs.YtjhndaehdbjgkaaW.PrintWords Go.Proofs.YtjhndaehdbjgkaaW.PrintLast Go.Proofs.YtjhndaehdbjgkaaW.PrintMore
attribute [local go_sem] max2_int min2_int max_two min_two max_three min_three max_four min_four   -- for this text's walks alone
set_option linter.unusedVariables false
set_option linter.unusedSimpArgs false

def spec_fiPut.f (k : Nat) (a0_0 : Int) (a0_1 : Int) (l0_2 : List Int) (l0_3 : List Int) (a1 : Bool) (a2 : Int) (a3 : Int) : Option (Int × Int × List Int × List Int) := (spec_fiOwn.f a0_0 a0_1 l0_2 l0_3).bind fun bt265 => ((spec_fiEdge.f a0_0 a0_1 l0_2 l0_3 a1 a2 a3).bind fun bt274 => ((spec_fiHas.f k a0_0 a0_1 l0_2 l0_3 a1 a2 a3).bind fun t276 => (if t276 = true then (some (bt265.1, bt265.2.1, bt265.2.2.1, bt265.2.2.2)) else (if a1 = true then ((spec_l1Put.f k bt265.2.2.2 bt274.1).bind fun t277 => (some (bt265.1, bt265.2.1, bt265.2.2.1, t277))) else ((spec_l1Put.f k bt265.2.2.1 bt274.1).bind fun t280 => (some (bt265.1, bt265.2.1, t280, bt265.2.2.2)))))))
theorem spec_fiPut.mono : ∀ a0 a1 a2 a3 a4 a5 a6 k, LeO (spec_fiPut.f k a0 a1 a2 a3 a4 a5 a6) (spec_fiPut.f (k + 1) a0 a1 a2 a3 a4 a5 a6) := by
 intro a0 a1 a2 a3 a4 a5 a6 k
 unfold spec_fiPut.f
 repeat' first
   | (with_reducible exact spec_fiHas.mono _ _ _ _ _ _ _ _)
   | (with_reducible exact spec_l1Put.mono _ _ _)
   | (with_reducible exact LeO.refl _)
   | (with_reducible exact LeO.none _)
   | (with_reducible refine LeO.ite ?_ ?_)
   | (with_reducible refine LeO.bind ?_ (fun _ => ?_))
   | exact spec_fiHas.mono _ _ _ _ _ _ _ _
   | exact spec_l1Put.mono _ _ _
   | exact LeO.none _
   | refine LeO.ite ?_ ?_
   | refine LeO.bind ?_ (fun _ => ?_)
set_option maxHeartbeats 8000000 in
set_option maxRecDepth 100000 in
theorem spec_fiPut.calls (k : Nat) (a0_0 : Int) (a0_1 : Int) (A0_2 : Option Addr) (c0_2 : Nat) (l0_2 : List Int) (A0_3 : Option Addr) (c0_3 : Nat) (l0_3 : List Int) (a1 : Bool) (a2 : Int) (a3 : Int) (r1 : Int) (r2 : Int) (r3 : List Int) (r4 : List Int) (w : World) (hr0_2 : Kd.C (Kd.int .i64) w A0_2 l0_2.length l0_2) (hc0_2 : l0_2.length ≤ c0_2) (hr0_3 : Kd.C (Kd.int .i64) w A0_3 l0_3.length l0_3) (hc0_3 : l0_3.length ≤ c0_3) (h : spec_fiPut.f k a0_0 a0_1 l0_2 l0_3 a1 a2 a3 = some (r1, r2, r3, r4)) :
  Calls Try.prog 152 #[.agg #[.int .i64 a0_0, .int .i64 a0_1, .slice A0_2 l0_2.length c0_2, .slice A0_3 l0_3.length c0_3], .bool a1, .int .i64 a2, .int .i64 a3] w fun e w' => ∃ v2_ v3_ : Value, e = .returned (.agg #[.int .i64 r1, .int .i64 r2, v2_, v3_]) ∧ Kd.R (Kd.int .i64) 3 w' w.heap.size (fun k_ => some k_ ≠ (v3_ : Value).ownBlock) v2_ r3 ∧ Kd.R (Kd.int .i64) 3 w' w.heap.size (fun k_ => some k_ ≠ (v2_ : Value).ownBlock) v3_ r4 ∧ Below w.heap.size w w' := by
 have hu28 := Try.underlying28
 have HR0_2 := Aside0.mk hr0_2
 have HC0_2 := Aside0.mk hc0_2
 clear hr0_2 hc0_2
 have HR0_3 := Aside0.mk hr0_3
 have HC0_3 := Aside0.mk hc0_3
 clear hr0_3 hc0_3
 have HB := Aside0.mk (Below.refl w.heap.size w)
 have H : ((spec_fiOwn.f a0_0 a0_1 l0_2 l0_3).bind fun bt265 => ((spec_fiEdge.f a0_0 a0_1 l0_2 l0_3 a1 a2 a3).bind fun bt274 => ((spec_fiHas.f k a0_0 a0_1 l0_2 l0_3 a1 a2 a3).bind fun t276 => (if t276 = true then (some (bt265.1, bt265.2.1, bt265.2.2.1, bt265.2.2.2)) else (if a1 = true then ((spec_l1Put.f k bt265.2.2.2 bt274.1).bind fun t277 => (some (bt265.1, bt265.2.1, bt265.2.2.1, t277))) else ((spec_l1Put.f k bt265.2.2.1 bt274.1).bind fun t280 => (some (bt265.1, bt265.2.1, t280, bt265.2.2.2)))))))) = some (r1, r2, r3, r4) := h
 clear h
 replace H := Option.bind_eq_some_iff.mp H
 obtain ⟨⟨t265, t266, t267, t270⟩, A50, H⟩ := H
 replace H : ((spec_fiEdge.f a0_0 a0_1 l0_2 l0_3 a1 a2 a3).bind fun bt274 => ((spec_fiHas.f k a0_0 a0_1 l0_2 l0_3 a1 a2 a3).bind fun t276 => (if t276 = true then (some (t265, t266, t267, t270)) else (if a1 = true then ((spec_l1Put.f k t270 bt274.1).bind fun t277 => (some (t265, t266, t267, t277))) else ((spec_l1Put.f k t267 bt274.1).bind fun t280 => (some (t265, t266, t280, t270))))))) = some (r1, r2, r3, r4) := H
 have A5 := Aside0.mk A50
 clear A50
 replace H := Option.bind_eq_some_iff.mp H
 obtain ⟨⟨t274, t275⟩, A60, H⟩ := H
 replace H : ((spec_fiHas.f k a0_0 a0_1 l0_2 l0_3 a1 a2 a3).bind fun t276 => (if t276 = true then (some (t265, t266, t267, t270)) else (if a1 = true then ((spec_l1Put.f k t270 t274).bind fun t277 => (some (t265, t266, t267, t277))) else ((spec_l1Put.f k t267 t274).bind fun t280 => (some (t265, t266, t280, t270)))))) = some (r1, r2, r3, r4) := H
 have A6 := Aside0.mk A60
 clear A60
 replace H := Option.bind_eq_some_iff.mp H
 obtain ⟨t276, A70, H⟩ := H
 replace H : (if t276 = true then (some (t265, t266, t267, t270)) else (if a1 = true then ((spec_l1Put.f k t270 t274).bind fun t277 => (some (t265, t266, t267, t277))) else ((spec_l1Put.f k t267 t274).bind fun t280 => (some (t265, t266, t280, t270))))) = some (r1, r2, r3, r4) := H
 have A7 := Aside0.mk A70
 clear A70
 by_cases c8 : t276 = true
 ·subst c8
  have H1 : (some (t265, t266, t267, t270)) = some (r1, r2, r3, r4) := by rw [if_pos rfl] at H; exact H
  clear H
  have H := H1
  clear H1
  simp only [Option.some.injEq, Prod.mk.injEq] at H
  obtain ⟨rfl, rfl, rfl, rfl⟩ := H
  go_enter Try.func152, Try.ntmps152
  go_wp2_with (first | ((with_reducible refine gate_dst (N := 4) rfl ?_); refine boxE_ (N := 4) (cs := #[.int .i64 a0_0, .int .i64 a0_1, .slice A0_2 l0_2.length c0_2, .slice A0_3 l0_3.length c0_3]) (t := 28) ?_; intro gb263 hg w9 hbox hb; have n0_ := Aside0.mk (below_step (bl0_ HB.out) hb); have n1_ := Aside0.mk (hbox); have n2_ := Aside0.mk ((bs0_ hg HB.out : w.heap.size ≤ gb263)); have n3_ := Aside0.mk ((bs0_ hg HB.out : w.heap.size ≤ gb263)); clear HB; have HB := n0_; have BK263 := n1_; have GW263 := n2_; have GE263 := n3_; clear n0_ n1_ n2_ n3_; clear hb hbox hg) | ((with_reducible refine gate_dst (N := 8) rfl ?_); refine boxE_ (N := 8) (cs := #[.int .i64 0, .int .i64 0, .slice none 0 0, .slice none 0 0]) (t := 28) ?_; intro gb264 hg w10 hbox hb; have n0_ := Aside0.mk (bb_ BK263.out hb); have n1_ := Aside0.mk (below_step (bl1_ HB.out GE263.out) hb); have n2_ := Aside0.mk (hbox); have n3_ := Aside0.mk ((bs1_ hg HB.out GE263.out : w.heap.size ≤ gb264)); have n4_ := Aside0.mk ((bs1_ hg HB.out GE263.out : w.heap.size ≤ gb264)); have n5_ := Aside0.mk ((nl_ hg BK263.out : gb263 ≠ gb264)); have n6_ := Aside0.mk ((ng_ hg BK263.out : gb264 ≠ gb263)); clear BK263; clear HB; have BK263 := n0_; have HB := n1_; have BK264 := n2_; have GW264 := n3_; have GE264 := n4_; have NB263_264 := n5_; have NB264_263 := n6_; clear n0_ n1_ n2_ n3_ n4_ n5_ n6_; clear hb hbox hg; have hnb11 := NB263_264.out; have hnc11 := NB264_263.out; have hcz12_0 : w10.cell? ⟨gb263, 0, none⟩ = some (.int .i64 a0_0) := (blk_cell BK263.out 0).trans rfl; have hcz12_1 : w10.cell? ⟨gb263, 1, none⟩ = some (.int .i64 a0_1) := (blk_cell BK263.out 1).trans rfl; have hcz12_2 : w10.cell? ⟨gb263, 2, none⟩ = some (.slice A0_2 l0_2.length c0_2) := (blk_cell BK263.out 2).trans rfl; have hcz12_3 : w10.cell? ⟨gb263, 3, none⟩ = some (.slice A0_3 l0_3.length c0_3) := (blk_cell BK263.out 3).trans rfl; have hfz12_0 := blk_frozen BK263.out 0; have hfz12_1 := blk_frozen BK263.out 1; have hfz12_2 := blk_frozen BK263.out 2; have hfz12_3 := blk_frozen BK263.out 3) | ((with_reducible refine gate_callee (f := 176) rfl ?_); refine goesL_ (some 13) rfl rfl Try.func176 (by kernel_rfl) rfl #[.agg #[.int .i64 a0_0, .int .i64 a0_1, .slice A0_2 l0_2.length c0_2, .slice A0_3 l0_3.length c0_3]] rfl ob_ ?_; (with_reducible refine (spec_fiOwn.calls a0_0 a0_1 _ _ l0_2 _ _ l0_3 t265 t266 t267 t270 _ ?side1 ?side2 ?side3 ?side4 A5.out).mono ?_); (case side1 => exact kc_ (Kd.C_below HR0_2.out HB.out)); (case side2 => exact HC0_2.out); (case side3 => exact kc_ (Kd.C_below HR0_3.out HB.out)); (case side4 => exact HC0_3.out); rintro e w13 ⟨v268, v271, rfl, ho0, ho1, hb⟩; refine ⟨_, rfl, ?_⟩; have n0_ := Aside0.mk (Kd.R_lower ho0 (below_size (bl2_ HB.out GE263.out GE264.out))); have n1_ := Aside0.mk (Kd.R_lower ho1 (below_size (bl2_ HB.out GE263.out GE264.out))); have n2_ := Aside0.mk (bb_ BK263.out hb); have n3_ := Aside0.mk (bb_ BK264.out hb); have n4_ := Aside0.mk (below_step (bl2_ HB.out GE263.out GE264.out) hb); clear BK263; clear BK264; clear HB; have HO269 := n0_; have HO272 := n1_; have BK263 := n2_; have BK264 := n3_; have HB := n4_; clear n0_ n1_ n2_ n3_ n4_; (try clear hb); (try clear hb2); (try clear hk); (try clear hi); (try clear ho0); (try clear ho1)) | ((with_reducible refine gate_dst (N := 9) rfl ?_); refine boxE_ (N := 9) (cs := #[.int .i64 0, .int .i64 0, .slice none 0 0, .slice none 0 0]) (t := 28) ?_; intro gb273 hg w14 hbox hb; have n0_ := Aside0.mk (Kd.R_below (kr_ HO269.out) hb); have n1_ := Aside0.mk (Kd.R_below (kr_ HO272.out) hb); have n2_ := Aside0.mk (bb_ BK263.out hb); have n3_ := Aside0.mk (bb_ BK264.out hb); have n4_ := Aside0.mk (below_step (bl2_ HB.out GE263.out GE264.out) hb); have n5_ := Aside0.mk (hbox); have n6_ := Aside0.mk ((bs2_ hg HB.out GE263.out GE264.out : w.heap.size ≤ gb273)); have n7_ := Aside0.mk ((bs2_ hg HB.out GE263.out GE264.out : w.heap.size ≤ gb273)); have n8_ := Aside0.mk ((nl_ hg BK263.out : gb263 ≠ gb273)); have n9_ := Aside0.mk ((ng_ hg BK263.out : gb273 ≠ gb263)); have n10_ := Aside0.mk ((nl_ hg BK264.out : gb264 ≠ gb273)); have n11_ := Aside0.mk ((ng_ hg BK264.out : gb273 ≠ gb264)); clear HO269; clear HO272; clear BK263; clear BK264; clear HB; have HO269 := n0_; have HO272 := n1_; have BK263 := n2_; have BK264 := n3_; have HB := n4_; have BK273 := n5_; have GW273 := n6_; have GE273 := n7_; have NB263_273 := n8_; have NB273_263 := n9_; have NB264_273 := n10_; have NB273_264 := n11_; clear n0_ n1_ n2_ n3_ n4_ n5_ n6_ n7_ n8_ n9_ n10_ n11_; clear hb hbox hg; have hnb15 := NB273_263.out; have hnc15 := NB263_273.out; have hnb16 := NB273_264.out; have hnc16 := NB264_273.out; have hcz17_0 : w14.cell? ⟨gb273, 0, none⟩ = some (.int .i64 0) := (blk_cell BK273.out 0).trans rfl; have hcz17_1 : w14.cell? ⟨gb273, 1, none⟩ = some (.int .i64 0) := (blk_cell BK273.out 1).trans rfl; have hcz17_2 : w14.cell? ⟨gb273, 2, none⟩ = some (.slice none 0 0) := (blk_cell BK273.out 2).trans rfl; have hcz17_3 : w14.cell? ⟨gb273, 3, none⟩ = some (.slice none 0 0) := (blk_cell BK273.out 3).trans rfl; have hfz17_0 := blk_frozen BK273.out 0; have hfz17_1 := blk_frozen BK273.out 1; have hfz17_2 := blk_frozen BK273.out 2; have hfz17_3 := blk_frozen BK273.out 3; obtain ⟨Ao18, co18, eo18⟩ := Kd.R_slice HO269.out; subst eo18; obtain ⟨Ao19, co19, eo19⟩ := Kd.R_slice HO272.out; subst eo19; have hcz20_0 : w14.cell? ⟨gb263, 0, none⟩ = some (.int .i64 a0_0) := (blk_cell BK263.out 0).trans rfl; have hcz20_1 : w14.cell? ⟨gb263, 1, none⟩ = some (.int .i64 a0_1) := (blk_cell BK263.out 1).trans rfl; have hcz20_2 : w14.cell? ⟨gb263, 2, none⟩ = some (.slice A0_2 l0_2.length c0_2) := (blk_cell BK263.out 2).trans rfl; have hcz20_3 : w14.cell? ⟨gb263, 3, none⟩ = some (.slice A0_3 l0_3.length c0_3) := (blk_cell BK263.out 3).trans rfl; have hfz20_0 := blk_frozen BK263.out 0; have hfz20_1 := blk_frozen BK263.out 1; have hfz20_2 := blk_frozen BK263.out 2; have hfz20_3 := blk_frozen BK263.out 3) | ((with_reducible refine gate_callee (f := 91) rfl ?_); refine goesL_ (some 19) rfl rfl Try.func91 (by kernel_rfl) rfl #[.agg #[.int .i64 a0_0, .int .i64 a0_1, .slice A0_2 l0_2.length c0_2, .slice A0_3 l0_3.length c0_3], .bool a1, .int .i64 a2, .int .i64 a3] rfl ob_ ?_; (with_reducible refine (spec_fiEdge.calls a0_0 a0_1 _ _ l0_2 _ _ l0_3 a1 a2 a3 t274 t275 _ ?side1 ?side2 ?side3 ?side4 A6.out).mono ?_); (case side1 => exact Kd.C_below HR0_2.out (bl3_ HB.out GE263.out GE264.out GE273.out)); (case side2 => exact HC0_2.out); (case side3 => exact Kd.C_below HR0_3.out (bl3_ HB.out GE263.out GE264.out GE273.out)); (case side4 => exact HC0_3.out); rintro e w21 ⟨rfl, hb⟩; refine ⟨_, rfl, ?_⟩; have n0_ := Aside0.mk (Kd.R_below (by (with_reducible repeat (first | apply Kd.R_alloc | apply Kd.R_drewN | apply Kd.R_drew)); exact (Kd.R_mono (Kd.R_far (p := ⟨gb273, 3, none⟩) (Kd.R_far (p := ⟨gb273, 2, none⟩) (Kd.R_far (p := ⟨gb273, 1, none⟩) (Kd.R_far (p := ⟨gb273, 0, none⟩) (Kd.R_types HO269.out BK273.out (by decide)) (fun _ hk => hk.2) (.int .i64 t265)) (fun _ hk => hk.2) (.int .i64 t266)) (fun _ hk => hk.2) (.slice Ao18 t267.length co18)) (fun _ hk => hk.2) (.slice Ao19 t270.length co19)) (fun _ h_ => h_.1))) hb); have n1_ := Aside0.mk (Kd.R_below (by (with_reducible repeat (first | apply Kd.R_alloc | apply Kd.R_drewN | apply Kd.R_drew)); exact (Kd.R_mono (Kd.R_far (p := ⟨gb273, 3, none⟩) (Kd.R_far (p := ⟨gb273, 2, none⟩) (Kd.R_far (p := ⟨gb273, 1, none⟩) (Kd.R_far (p := ⟨gb273, 0, none⟩) (Kd.R_types HO272.out BK273.out (by decide)) (fun _ hk => hk.2) (.int .i64 t265)) (fun _ hk => hk.2) (.int .i64 t266)) (fun _ hk => hk.2) (.slice Ao18 t267.length co18)) (fun _ hk => hk.2) (.slice Ao19 t270.length co19)) (fun _ h_ => h_.1))) hb); have n2_ := Aside0.mk (blk_below (g := gb263) (o := .cells #[.int .i64 a0_0, .int .i64 a0_1, .slice A0_2 l0_2.length c0_2, .slice A0_3 l0_3.length c0_3] 28 (0, 0)) (bf4_ NB263_273.out NB263_273.out NB263_273.out NB263_273.out BK263.out) hb); have n3_ := Aside0.mk (blk_below (g := gb264) (o := .cells #[.int .i64 0, .int .i64 0, .slice none 0 0, .slice none 0 0] 28 (0, 0)) (bf4_ NB264_273.out NB264_273.out NB264_273.out NB264_273.out BK264.out) hb); have n4_ := Aside0.mk (blk_below (g := gb273) (o := .cells #[.int .i64 t265, .int .i64 t266, .slice Ao18 t267.length co18, .slice Ao19 t270.length co19] 28 (0, 0)) (by (with_reducible repeat (first | refine blk_drewN ?_ _ | refine blk_drew ?_ | refine blk_alloc ?_ _)); refine blk_put (cs := #[.int .i64 t265, .int .i64 t266, .slice Ao18 t267.length co18, .slice none 0 0]) ?_ 3 _ rfl; (with_reducible repeat (first | refine blk_drewN ?_ _ | refine blk_drew ?_ | refine blk_alloc ?_ _)); refine blk_put (cs := #[.int .i64 t265, .int .i64 t266, .slice none 0 0, .slice none 0 0]) ?_ 2 _ rfl; (with_reducible repeat (first | refine blk_drewN ?_ _ | refine blk_drew ?_ | refine blk_alloc ?_ _)); refine blk_put (cs := #[.int .i64 t265, .int .i64 0, .slice none 0 0, .slice none 0 0]) ?_ 1 _ rfl; (with_reducible repeat (first | refine blk_drewN ?_ _ | refine blk_drew ?_ | refine blk_alloc ?_ _)); refine blk_put (cs := #[.int .i64 0, .int .i64 0, .slice none 0 0, .slice none 0 0]) ?_ 0 _ rfl; (with_reducible repeat (first | refine blk_drewN ?_ _ | refine blk_drew ?_ | refine blk_alloc ?_ _)); exact BK273.out) hb); have n5_ := Aside0.mk (below_step (bl3_ HB.out GE263.out GE264.out GE273.out) hb); clear HO269; clear HO272; clear BK263; clear BK264; clear BK273; clear HB; have HO269 := n0_; have HO272 := n1_; have BK263 := n2_; have BK264 := n3_; have BK273 := n4_; have HB := n5_; clear n0_ n1_ n2_ n3_ n4_ n5_; (try clear hb); (try clear hb2); (try clear hk); (try clear hi); have hcz22_0 : w21.cell? ⟨gb263, 0, none⟩ = some (.int .i64 a0_0) := (blk_cell BK263.out 0).trans rfl; have hcz22_1 : w21.cell? ⟨gb263, 1, none⟩ = some (.int .i64 a0_1) := (blk_cell BK263.out 1).trans rfl; have hcz22_2 : w21.cell? ⟨gb263, 2, none⟩ = some (.slice A0_2 l0_2.length c0_2) := (blk_cell BK263.out 2).trans rfl; have hcz22_3 : w21.cell? ⟨gb263, 3, none⟩ = some (.slice A0_3 l0_3.length c0_3) := (blk_cell BK263.out 3).trans rfl; have hfz22_0 := blk_frozen BK263.out 0; have hfz22_1 := blk_frozen BK263.out 1; have hfz22_2 := blk_frozen BK263.out 2; have hfz22_3 := blk_frozen BK263.out 3) | ((with_reducible refine gate_callee (f := 90) rfl ?_); refine goesL_ (some 32) rfl rfl Try.func90 (by kernel_rfl) rfl #[.agg #[.int .i64 a0_0, .int .i64 a0_1, .slice A0_2 l0_2.length c0_2, .slice A0_3 l0_3.length c0_3], .bool a1, .int .i64 a2, .int .i64 a3] rfl ob_ ?_; (with_reducible refine (spec_fiHas.calls k a0_0 a0_1 _ _ l0_2 _ _ l0_3 a1 a2 a3 true _ ?side1 ?side2 ?side3 ?side4 A7.out).mono ?_); (case side1 => exact kc_ (Kd.C_below HR0_2.out HB.out)); (case side2 => exact HC0_2.out); (case side3 => exact kc_ (Kd.C_below HR0_3.out HB.out)); (case side4 => exact HC0_3.out); rintro e w23 ⟨rfl, hb⟩; refine ⟨_, rfl, ?_⟩; have n0_ := Aside0.mk (Kd.R_below (kr_ HO269.out) hb); have n1_ := Aside0.mk (Kd.R_below (kr_ HO272.out) hb); have n2_ := Aside0.mk (bb_ BK263.out hb); have n3_ := Aside0.mk (bb_ BK264.out hb); have n4_ := Aside0.mk (bb_ BK273.out hb); have n5_ := Aside0.mk (below_step (bl3_ HB.out GE263.out GE264.out GE273.out) hb); clear HO269; clear HO272; clear BK263; clear BK264; clear BK273; clear HB; have HO269 := n0_; have HO272 := n1_; have BK263 := n2_; have BK264 := n3_; have BK273 := n4_; have HB := n5_; clear n0_ n1_ n2_ n3_ n4_ n5_; (try clear hb); (try clear hb2); (try clear hk); (try clear hi); have hcz24_0 : w23.cell? ⟨gb273, 0, none⟩ = some (.int .i64 t265) := (blk_cell BK273.out 0).trans rfl; have hcz24_1 : w23.cell? ⟨gb273, 1, none⟩ = some (.int .i64 t266) := (blk_cell BK273.out 1).trans rfl; have hcz24_2 : w23.cell? ⟨gb273, 2, none⟩ = some (.slice Ao18 t267.length co18) := (blk_cell BK273.out 2).trans rfl; have hcz24_3 : w23.cell? ⟨gb273, 3, none⟩ = some (.slice Ao19 t270.length co19) := (blk_cell BK273.out 3).trans rfl; have hfz24_0 := blk_frozen BK273.out 0; have hfz24_1 := blk_frozen BK273.out 1; have hfz24_2 := blk_frozen BK273.out 2; have hfz24_3 := blk_frozen BK273.out 3; have hcz25_0 : w23.cell? ⟨gb264, 0, none⟩ = some (.int .i64 0) := (blk_cell BK264.out 0).trans rfl; have hcz25_1 : w23.cell? ⟨gb264, 1, none⟩ = some (.int .i64 0) := (blk_cell BK264.out 1).trans rfl; have hcz25_2 : w23.cell? ⟨gb264, 2, none⟩ = some (.slice none 0 0) := (blk_cell BK264.out 2).trans rfl; have hcz25_3 : w23.cell? ⟨gb264, 3, none⟩ = some (.slice none 0 0) := (blk_cell BK264.out 3).trans rfl; have hfz25_0 := blk_frozen BK264.out 0; have hfz25_1 := blk_frozen BK264.out 1; have hfz25_2 := blk_frozen BK264.out 2; have hfz25_3 := blk_frozen BK264.out 3))
  refine bodyPost_ret (results_cell_row rfl _ _ gb264 28 #[.int .i64 t265, .int .i64 t266, .slice Ao18 t267.length co18, .slice Ao19 t270.length co19] (0, 0) _ rfl (by (with_reducible repeat (first | refine blk_drewN ?_ _ | refine blk_drew ?_ | refine blk_alloc ?_ _)); refine blk_put (cs := #[.int .i64 t265, .int .i64 t266, .slice Ao18 t267.length co18, .slice none 0 0]) ?_ 3 _ rfl; (with_reducible repeat (first | refine blk_drewN ?_ _ | refine blk_drew ?_ | refine blk_alloc ?_ _)); refine blk_put (cs := #[.int .i64 t265, .int .i64 t266, .slice none 0 0, .slice none 0 0]) ?_ 2 _ rfl; (with_reducible repeat (first | refine blk_drewN ?_ _ | refine blk_drew ?_ | refine blk_alloc ?_ _)); refine blk_put (cs := #[.int .i64 t265, .int .i64 0, .slice none 0 0, .slice none 0 0]) ?_ 1 _ rfl; (with_reducible repeat (first | refine blk_drewN ?_ _ | refine blk_drew ?_ | refine blk_alloc ?_ _)); refine blk_put (cs := #[.int .i64 0, .int .i64 0, .slice none 0 0, .slice none 0 0]) ?_ 0 _ rfl; (with_reducible repeat (first | refine blk_drewN ?_ _ | refine blk_drew ?_ | refine blk_alloc ?_ _)); exact BK264.out) Try.underlying28 rfl (by kernel_rfl)) rfl ?_
  exact ⟨_, _, er_, by (with_reducible repeat (first | apply Kd.R_alloc | apply Kd.R_drewN | apply Kd.R_drew)); exact Kd.R_mono (Kd.R_far (p := ⟨gb264, 3, none⟩) (Kd.R_far (p := ⟨gb264, 2, none⟩) (Kd.R_far (p := ⟨gb264, 1, none⟩) (Kd.R_far (p := ⟨gb264, 0, none⟩) (Kd.R_types HO269.out BK264.out (by decide)) (fun _ hk => hk.2) (.int .i64 t265)) (fun _ hk => hk.2) (.int .i64 t266)) (fun _ hk => hk.2) (.slice Ao18 t267.length co18)) (fun _ hk => hk.2) (.slice Ao19 t270.length co19)) (fun _ hk => hk.1), by (with_reducible repeat (first | apply Kd.R_alloc | apply Kd.R_drewN | apply Kd.R_drew)); exact Kd.R_mono (Kd.R_far (p := ⟨gb264, 3, none⟩) (Kd.R_far (p := ⟨gb264, 2, none⟩) (Kd.R_far (p := ⟨gb264, 1, none⟩) (Kd.R_far (p := ⟨gb264, 0, none⟩) (Kd.R_types HO272.out BK264.out (by decide)) (fun _ hk => hk.2) (.int .i64 t265)) (fun _ hk => hk.2) (.int .i64 t266)) (fun _ hk => hk.2) (.slice Ao18 t267.length co18)) (fun _ hk => hk.2) (.slice Ao19 t270.length co19)) (fun _ hk => hk.1), bl3_ HB.out GE263.out GE264.out GE273.out⟩
 ·replace c8 := Bool.eq_false_iff.mpr c8
  subst c8
  have H1 : (if a1 = true then ((spec_l1Put.f k t270 t274).bind fun t277 => (some (t265, t266, t267, t277))) else ((spec_l1Put.f k t267 t274).bind fun t280 => (some (t265, t266, t280, t270)))) = some (r1, r2, r3, r4) := by rw [if_neg (show ¬ (false = true) by decide)] at H; exact H
  clear H
  have H := H1
  clear H1
  by_cases c26 : a1 = true
  ·subst c26
   have H1 : ((spec_l1Put.f k t270 t274).bind fun t277 => (some (t265, t266, t267, t277))) = some (r1, r2, r3, r4) := by rw [if_pos rfl] at H; exact H
   clear H
   have H := H1
   clear H1
   replace H := Option.bind_eq_some_iff.mp H
   obtain ⟨t277, A270, H⟩ := H
   replace H : (some (t265, t266, t267, t277)) = some (r1, r2, r3, r4) := H
   have A27 := Aside0.mk A270
   clear A270
   simp only [Option.some.injEq, Prod.mk.injEq] at H
   obtain ⟨rfl, rfl, rfl, rfl⟩ := H
   go_enter Try.func152, Try.ntmps152
   go_wp2_with (first | ((with_reducible refine gate_dst (N := 4) rfl ?_); refine boxE_ (N := 4) (cs := #[.int .i64 a0_0, .int .i64 a0_1, .slice A0_2 l0_2.length c0_2, .slice A0_3 l0_3.length c0_3]) (t := 28) ?_; intro gb263 hg w28 hbox hb; have n0_ := Aside0.mk (below_step (bl0_ HB.out) hb); have n1_ := Aside0.mk (hbox); have n2_ := Aside0.mk ((bs0_ hg HB.out : w.heap.size ≤ gb263)); have n3_ := Aside0.mk ((bs0_ hg HB.out : w.heap.size ≤ gb263)); clear HB; have HB := n0_; have BK263 := n1_; have GW263 := n2_; have GE263 := n3_; clear n0_ n1_ n2_ n3_; clear hb hbox hg) | ((with_reducible refine gate_dst (N := 8) rfl ?_); refine boxE_ (N := 8) (cs := #[.int .i64 0, .int .i64 0, .slice none 0 0, .slice none 0 0]) (t := 28) ?_; intro gb264 hg w29 hbox hb; have n0_ := Aside0.mk (bb_ BK263.out hb); have n1_ := Aside0.mk (below_step (bl1_ HB.out GE263.out) hb); have n2_ := Aside0.mk (hbox); have n3_ := Aside0.mk ((bs1_ hg HB.out GE263.out : w.heap.size ≤ gb264)); have n4_ := Aside0.mk ((bs1_ hg HB.out GE263.out : w.heap.size ≤ gb264)); have n5_ := Aside0.mk ((nl_ hg BK263.out : gb263 ≠ gb264)); have n6_ := Aside0.mk ((ng_ hg BK263.out : gb264 ≠ gb263)); clear BK263; clear HB; have BK263 := n0_; have HB := n1_; have BK264 := n2_; have GW264 := n3_; have GE264 := n4_; have NB263_264 := n5_; have NB264_263 := n6_; clear n0_ n1_ n2_ n3_ n4_ n5_ n6_; clear hb hbox hg; have hnb30 := NB263_264.out; have hnc30 := NB264_263.out; have hcz31_0 : w29.cell? ⟨gb263, 0, none⟩ = some (.int .i64 a0_0) := (blk_cell BK263.out 0).trans rfl; have hcz31_1 : w29.cell? ⟨gb263, 1, none⟩ = some (.int .i64 a0_1) := (blk_cell BK263.out 1).trans rfl; have hcz31_2 : w29.cell? ⟨gb263, 2, none⟩ = some (.slice A0_2 l0_2.length c0_2) := (blk_cell BK263.out 2).trans rfl; have hcz31_3 : w29.cell? ⟨gb263, 3, none⟩ = some (.slice A0_3 l0_3.length c0_3) := (blk_cell BK263.out 3).trans rfl; have hfz31_0 := blk_frozen BK263.out 0; have hfz31_1 := blk_frozen BK263.out 1; have hfz31_2 := blk_frozen BK263.out 2; have hfz31_3 := blk_frozen BK263.out 3) | ((with_reducible refine gate_callee (f := 176) rfl ?_); refine goesL_ (some 13) rfl rfl Try.func176 (by kernel_rfl) rfl #[.agg #[.int .i64 a0_0, .int .i64 a0_1, .slice A0_2 l0_2.length c0_2, .slice A0_3 l0_3.length c0_3]] rfl ob_ ?_; (with_reducible refine (spec_fiOwn.calls a0_0 a0_1 _ _ l0_2 _ _ l0_3 t265 t266 t267 t270 _ ?side1 ?side2 ?side3 ?side4 A5.out).mono ?_); (case side1 => exact kc_ (Kd.C_below HR0_2.out HB.out)); (case side2 => exact HC0_2.out); (case side3 => exact kc_ (Kd.C_below HR0_3.out HB.out)); (case side4 => exact HC0_3.out); rintro e w32 ⟨v268, v271, rfl, ho0, ho1, hb⟩; refine ⟨_, rfl, ?_⟩; have n0_ := Aside0.mk (Kd.R_lower ho0 (below_size (bl2_ HB.out GE263.out GE264.out))); have n1_ := Aside0.mk (Kd.R_lower ho1 (below_size (bl2_ HB.out GE263.out GE264.out))); have n2_ := Aside0.mk (bb_ BK263.out hb); have n3_ := Aside0.mk (bb_ BK264.out hb); have n4_ := Aside0.mk (below_step (bl2_ HB.out GE263.out GE264.out) hb); clear BK263; clear BK264; clear HB; have HO269 := n0_; have HO272 := n1_; have BK263 := n2_; have BK264 := n3_; have HB := n4_; clear n0_ n1_ n2_ n3_ n4_; (try clear hb); (try clear hb2); (try clear hk); (try clear hi); (try clear ho0); (try clear ho1)) | ((with_reducible refine gate_dst (N := 9) rfl ?_); refine boxE_ (N := 9) (cs := #[.int .i64 0, .int .i64 0, .slice none 0 0, .slice none 0 0]) (t := 28) ?_; intro gb273 hg w33 hbox hb; have n0_ := Aside0.mk (Kd.R_below (kr_ HO269.out) hb); have n1_ := Aside0.mk (Kd.R_below (kr_ HO272.out) hb); have n2_ := Aside0.mk (bb_ BK263.out hb); have n3_ := Aside0.mk (bb_ BK264.out hb); have n4_ := Aside0.mk (below_step (bl2_ HB.out GE263.out GE264.out) hb); have n5_ := Aside0.mk (hbox); have n6_ := Aside0.mk ((bs2_ hg HB.out GE263.out GE264.out : w.heap.size ≤ gb273)); have n7_ := Aside0.mk ((bs2_ hg HB.out GE263.out GE264.out : w.heap.size ≤ gb273)); have n8_ := Aside0.mk ((nl_ hg BK263.out : gb263 ≠ gb273)); have n9_ := Aside0.mk ((ng_ hg BK263.out : gb273 ≠ gb263)); have n10_ := Aside0.mk ((nl_ hg BK264.out : gb264 ≠ gb273)); have n11_ := Aside0.mk ((ng_ hg BK264.out : gb273 ≠ gb264)); clear HO269; clear HO272; clear BK263; clear BK264; clear HB; have HO269 := n0_; have HO272 := n1_; have BK263 := n2_; have BK264 := n3_; have HB := n4_; have BK273 := n5_; have GW273 := n6_; have GE273 := n7_; have NB263_273 := n8_; have NB273_263 := n9_; have NB264_273 := n10_; have NB273_264 := n11_; clear n0_ n1_ n2_ n3_ n4_ n5_ n6_ n7_ n8_ n9_ n10_ n11_; clear hb hbox hg; have hnb34 := NB273_263.out; have hnc34 := NB263_273.out; have hnb35 := NB273_264.out; have hnc35 := NB264_273.out; have hcz36_0 : w33.cell? ⟨gb273, 0, none⟩ = some (.int .i64 0) := (blk_cell BK273.out 0).trans rfl; have hcz36_1 : w33.cell? ⟨gb273, 1, none⟩ = some (.int .i64 0) := (blk_cell BK273.out 1).trans rfl; have hcz36_2 : w33.cell? ⟨gb273, 2, none⟩ = some (.slice none 0 0) := (blk_cell BK273.out 2).trans rfl; have hcz36_3 : w33.cell? ⟨gb273, 3, none⟩ = some (.slice none 0 0) := (blk_cell BK273.out 3).trans rfl; have hfz36_0 := blk_frozen BK273.out 0; have hfz36_1 := blk_frozen BK273.out 1; have hfz36_2 := blk_frozen BK273.out 2; have hfz36_3 := blk_frozen BK273.out 3; obtain ⟨Ao37, co37, eo37⟩ := Kd.R_slice HO269.out; subst eo37; obtain ⟨Ao38, co38, eo38⟩ := Kd.R_slice HO272.out; subst eo38; have hcz39_0 : w33.cell? ⟨gb263, 0, none⟩ = some (.int .i64 a0_0) := (blk_cell BK263.out 0).trans rfl; have hcz39_1 : w33.cell? ⟨gb263, 1, none⟩ = some (.int .i64 a0_1) := (blk_cell BK263.out 1).trans rfl; have hcz39_2 : w33.cell? ⟨gb263, 2, none⟩ = some (.slice A0_2 l0_2.length c0_2) := (blk_cell BK263.out 2).trans rfl; have hcz39_3 : w33.cell? ⟨gb263, 3, none⟩ = some (.slice A0_3 l0_3.length c0_3) := (blk_cell BK263.out 3).trans rfl; have hfz39_0 := blk_frozen BK263.out 0; have hfz39_1 := blk_frozen BK263.out 1; have hfz39_2 := blk_frozen BK263.out 2; have hfz39_3 := blk_frozen BK263.out 3) | ((with_reducible refine gate_callee (f := 91) rfl ?_); refine goesL_ (some 19) rfl rfl Try.func91 (by kernel_rfl) rfl #[.agg #[.int .i64 a0_0, .int .i64 a0_1, .slice A0_2 l0_2.length c0_2, .slice A0_3 l0_3.length c0_3], .bool true, .int .i64 a2, .int .i64 a3] rfl ob_ ?_; (with_reducible refine (spec_fiEdge.calls a0_0 a0_1 _ _ l0_2 _ _ l0_3 true a2 a3 t274 t275 _ ?side1 ?side2 ?side3 ?side4 A6.out).mono ?_); (case side1 => exact Kd.C_below HR0_2.out (bl3_ HB.out GE263.out GE264.out GE273.out)); (case side2 => exact HC0_2.out); (case side3 => exact Kd.C_below HR0_3.out (bl3_ HB.out GE263.out GE264.out GE273.out)); (case side4 => exact HC0_3.out); rintro e w40 ⟨rfl, hb⟩; refine ⟨_, rfl, ?_⟩; have n0_ := Aside0.mk (Kd.R_below (by (with_reducible repeat (first | apply Kd.R_alloc | apply Kd.R_drewN | apply Kd.R_drew)); exact (Kd.R_mono (Kd.R_far (p := ⟨gb273, 3, none⟩) (Kd.R_far (p := ⟨gb273, 2, none⟩) (Kd.R_far (p := ⟨gb273, 1, none⟩) (Kd.R_far (p := ⟨gb273, 0, none⟩) (Kd.R_types HO269.out BK273.out (by decide)) (fun _ hk => hk.2) (.int .i64 t265)) (fun _ hk => hk.2) (.int .i64 t266)) (fun _ hk => hk.2) (.slice Ao37 t267.length co37)) (fun _ hk => hk.2) (.slice Ao38 t270.length co38)) (fun _ h_ => h_.1))) hb); have n1_ := Aside0.mk (Kd.R_below (by (with_reducible repeat (first | apply Kd.R_alloc | apply Kd.R_drewN | apply Kd.R_drew)); exact (Kd.R_mono (Kd.R_far (p := ⟨gb273, 3, none⟩) (Kd.R_far (p := ⟨gb273, 2, none⟩) (Kd.R_far (p := ⟨gb273, 1, none⟩) (Kd.R_far (p := ⟨gb273, 0, none⟩) (Kd.R_types HO272.out BK273.out (by decide)) (fun _ hk => hk.2) (.int .i64 t265)) (fun _ hk => hk.2) (.int .i64 t266)) (fun _ hk => hk.2) (.slice Ao37 t267.length co37)) (fun _ hk => hk.2) (.slice Ao38 t270.length co38)) (fun _ h_ => h_.1))) hb); have n2_ := Aside0.mk (blk_below (g := gb263) (o := .cells #[.int .i64 a0_0, .int .i64 a0_1, .slice A0_2 l0_2.length c0_2, .slice A0_3 l0_3.length c0_3] 28 (0, 0)) (bf4_ NB263_273.out NB263_273.out NB263_273.out NB263_273.out BK263.out) hb); have n3_ := Aside0.mk (blk_below (g := gb264) (o := .cells #[.int .i64 0, .int .i64 0, .slice none 0 0, .slice none 0 0] 28 (0, 0)) (bf4_ NB264_273.out NB264_273.out NB264_273.out NB264_273.out BK264.out) hb); have n4_ := Aside0.mk (blk_below (g := gb273) (o := .cells #[.int .i64 t265, .int .i64 t266, .slice Ao37 t267.length co37, .slice Ao38 t270.length co38] 28 (0, 0)) (by (with_reducible repeat (first | refine blk_drewN ?_ _ | refine blk_drew ?_ | refine blk_alloc ?_ _)); refine blk_put (cs := #[.int .i64 t265, .int .i64 t266, .slice Ao37 t267.length co37, .slice none 0 0]) ?_ 3 _ rfl; (with_reducible repeat (first | refine blk_drewN ?_ _ | refine blk_drew ?_ | refine blk_alloc ?_ _)); refine blk_put (cs := #[.int .i64 t265, .int .i64 t266, .slice none 0 0, .slice none 0 0]) ?_ 2 _ rfl; (with_reducible repeat (first | refine blk_drewN ?_ _ | refine blk_drew ?_ | refine blk_alloc ?_ _)); refine blk_put (cs := #[.int .i64 t265, .int .i64 0, .slice none 0 0, .slice none 0 0]) ?_ 1 _ rfl; (with_reducible repeat (first | refine blk_drewN ?_ _ | refine blk_drew ?_ | refine blk_alloc ?_ _)); refine blk_put (cs := #[.int .i64 0, .int .i64 0, .slice none 0 0, .slice none 0 0]) ?_ 0 _ rfl; (with_reducible repeat (first | refine blk_drewN ?_ _ | refine blk_drew ?_ | refine blk_alloc ?_ _)); exact BK273.out) hb); have n5_ := Aside0.mk (below_step (bl3_ HB.out GE263.out GE264.out GE273.out) hb); clear HO269; clear HO272; clear BK263; clear BK264; clear BK273; clear HB; have HO269 := n0_; have HO272 := n1_; have BK263 := n2_; have BK264 := n3_; have BK273 := n4_; have HB := n5_; clear n0_ n1_ n2_ n3_ n4_ n5_; (try clear hb); (try clear hb2); (try clear hk); (try clear hi); have hcz41_0 : w40.cell? ⟨gb263, 0, none⟩ = some (.int .i64 a0_0) := (blk_cell BK263.out 0).trans rfl; have hcz41_1 : w40.cell? ⟨gb263, 1, none⟩ = some (.int .i64 a0_1) := (blk_cell BK263.out 1).trans rfl; have hcz41_2 : w40.cell? ⟨gb263, 2, none⟩ = some (.slice A0_2 l0_2.length c0_2) := (blk_cell BK263.out 2).trans rfl; have hcz41_3 : w40.cell? ⟨gb263, 3, none⟩ = some (.slice A0_3 l0_3.length c0_3) := (blk_cell BK263.out 3).trans rfl; have hfz41_0 := blk_frozen BK263.out 0; have hfz41_1 := blk_frozen BK263.out 1; have hfz41_2 := blk_frozen BK263.out 2; have hfz41_3 := blk_frozen BK263.out 3) | ((with_reducible refine gate_callee (f := 90) rfl ?_); refine goesL_ (some 32) rfl rfl Try.func90 (by kernel_rfl) rfl #[.agg #[.int .i64 a0_0, .int .i64 a0_1, .slice A0_2 l0_2.length c0_2, .slice A0_3 l0_3.length c0_3], .bool true, .int .i64 a2, .int .i64 a3] rfl ob_ ?_; (with_reducible refine (spec_fiHas.calls k a0_0 a0_1 _ _ l0_2 _ _ l0_3 true a2 a3 false _ ?side1 ?side2 ?side3 ?side4 A7.out).mono ?_); (case side1 => exact kc_ (Kd.C_below HR0_2.out HB.out)); (case side2 => exact HC0_2.out); (case side3 => exact kc_ (Kd.C_below HR0_3.out HB.out)); (case side4 => exact HC0_3.out); rintro e w42 ⟨rfl, hb⟩; refine ⟨_, rfl, ?_⟩; have n0_ := Aside0.mk (Kd.R_below (kr_ HO269.out) hb); have n1_ := Aside0.mk (Kd.R_below (kr_ HO272.out) hb); have n2_ := Aside0.mk (bb_ BK263.out hb); have n3_ := Aside0.mk (bb_ BK264.out hb); have n4_ := Aside0.mk (bb_ BK273.out hb); have n5_ := Aside0.mk (below_step (bl3_ HB.out GE263.out GE264.out GE273.out) hb); clear HO269; clear HO272; clear BK263; clear BK264; clear BK273; clear HB; have HO269 := n0_; have HO272 := n1_; have BK263 := n2_; have BK264 := n3_; have BK273 := n4_; have HB := n5_; clear n0_ n1_ n2_ n3_ n4_ n5_; (try clear hb); (try clear hb2); (try clear hk); (try clear hi); have hcz43_0 : w42.cell? ⟨gb273, 0, none⟩ = some (.int .i64 t265) := (blk_cell BK273.out 0).trans rfl; have hcz43_1 : w42.cell? ⟨gb273, 1, none⟩ = some (.int .i64 t266) := (blk_cell BK273.out 1).trans rfl; have hcz43_2 : w42.cell? ⟨gb273, 2, none⟩ = some (.slice Ao37 t267.length co37) := (blk_cell BK273.out 2).trans rfl; have hcz43_3 : w42.cell? ⟨gb273, 3, none⟩ = some (.slice Ao38 t270.length co38) := (blk_cell BK273.out 3).trans rfl; have hfz43_0 := blk_frozen BK273.out 0; have hfz43_1 := blk_frozen BK273.out 1; have hfz43_2 := blk_frozen BK273.out 2; have hfz43_3 := blk_frozen BK273.out 3) | ((with_reducible refine gate_callee (f := 145) rfl ?_); refine goesL_ (some 38) rfl rfl Try.func145 (by kernel_rfl) rfl #[.slice Ao38 t270.length co38, .int .i64 t274] rfl ob_ ?_; (with_reducible refine (spec_l1Put.calls k (fun k_ => some k_ = (.slice Ao38 t270.length co38 : Value).ownBlock) (.slice Ao38 t270.length co38) t270 t274 t277 w _ ?side1 ?side2 A27.out).mono ?_); (case side1 => repeat (first | (with_reducible first | exact HB.out | apply below_alloc | apply pw_below_drewN | apply below_drew1 | refine below_set ?_ GE263.out | refine below_set ?_ GE264.out | refine below_set ?_ GE273.out) | exact HB.out)); (case side2 => exact Kd.R_tight rfl HO272.out); rintro e w44 ⟨v278, rfl, ho0, hb, hkp⟩; refine ⟨_, rfl, ?_⟩; have n0_ := Aside0.mk (blk_kept (bk_ BK263.out) hkp (fun hs_ => (fun e_ => (Kd.R_ne HO272.out BK263.out (by decide)) e_) hs_)); have n1_ := Aside0.mk (blk_kept (bk_ BK264.out) hkp (fun hs_ => (fun e_ => (Kd.R_ne HO272.out BK264.out (by decide)) e_) hs_)); have n2_ := Aside0.mk (Kd.R_mono (ok' := fun k_ => some k_ ≠ (v278 : Value).ownBlock) (Kd.R_keptB (HO269.out) hkp (fun k_ hk_ hs_ => (hk_) hs_)) (fun k_ hk_ => fun e_ => Or.elim (ho0.1 k_ e_.symm) (fun hs_ => hk_.2.1 hs_) (fun hn_ => Nat.not_le.2 hk_.2.2 hn_))); have n3_ := Aside0.mk (blk_kept (bk_ BK273.out) hkp (fun hs_ => (fun e_ => (Kd.R_ne HO272.out BK273.out (by decide)) e_) hs_)); have n4_ := Aside0.mk (Kd.R_mono (ok' := fun k_ => some k_ ≠ (.slice Ao37 t267.length co37 : Value).ownBlock) ho0 (fun k_ hk_ => Or.elim hk_ (fun hs_ => fun e_ => (((HO269.out).1 k_ e_.symm)) hs_) (fun hn_ => (Kd.fresh' (Kd.R_lt (kr_ HO269.out)) k_ hn_)))); have n5_ := Aside0.mk (hb); clear BK263; clear BK264; clear HO269; clear BK273; clear HB; clear HO272; have BK263 := n0_; have BK264 := n1_; have HO269 := n2_; have BK273 := n3_; have HO279 := n4_; have HB := n5_; clear n0_ n1_ n2_ n3_ n4_ n5_; (try clear hb); (try clear hkp); (try clear ho0); obtain ⟨Ao45, co45, eo45⟩ := Kd.R_slice HO279.out; subst eo45; have hcz46_0 : w44.cell? ⟨gb273, 0, none⟩ = some (.int .i64 t265) := (blk_cell BK273.out 0).trans rfl; have hcz46_1 : w44.cell? ⟨gb273, 1, none⟩ = some (.int .i64 t266) := (blk_cell BK273.out 1).trans rfl; have hcz46_2 : w44.cell? ⟨gb273, 2, none⟩ = some (.slice Ao37 t267.length co37) := (blk_cell BK273.out 2).trans rfl; have hcz46_3 : w44.cell? ⟨gb273, 3, none⟩ = some (.slice Ao38 t270.length co38) := (blk_cell BK273.out 3).trans rfl; have hfz46_0 := blk_frozen BK273.out 0; have hfz46_1 := blk_frozen BK273.out 1; have hfz46_2 := blk_frozen BK273.out 2; have hfz46_3 := blk_frozen BK273.out 3; have hcz47_0 : w44.cell? ⟨gb264, 0, none⟩ = some (.int .i64 0) := (blk_cell BK264.out 0).trans rfl; have hcz47_1 : w44.cell? ⟨gb264, 1, none⟩ = some (.int .i64 0) := (blk_cell BK264.out 1).trans rfl; have hcz47_2 : w44.cell? ⟨gb264, 2, none⟩ = some (.slice none 0 0) := (blk_cell BK264.out 2).trans rfl; have hcz47_3 : w44.cell? ⟨gb264, 3, none⟩ = some (.slice none 0 0) := (blk_cell BK264.out 3).trans rfl; have hfz47_0 := blk_frozen BK264.out 0; have hfz47_1 := blk_frozen BK264.out 1; have hfz47_2 := blk_frozen BK264.out 2; have hfz47_3 := blk_frozen BK264.out 3))
   refine bodyPost_ret (results_cell_row rfl _ _ gb264 28 #[.int .i64 t265, .int .i64 t266, .slice Ao37 t267.length co37, .slice Ao45 t277.length co45] (0, 0) _ rfl (by (with_reducible repeat (first | refine blk_drewN ?_ _ | refine blk_drew ?_ | refine blk_alloc ?_ _)); refine blk_put (cs := #[.int .i64 t265, .int .i64 t266, .slice Ao37 t267.length co37, .slice none 0 0]) ?_ 3 _ rfl; (with_reducible repeat (first | refine blk_drewN ?_ _ | refine blk_drew ?_ | refine blk_alloc ?_ _)); refine blk_put (cs := #[.int .i64 t265, .int .i64 t266, .slice none 0 0, .slice none 0 0]) ?_ 2 _ rfl; (with_reducible repeat (first | refine blk_drewN ?_ _ | refine blk_drew ?_ | refine blk_alloc ?_ _)); refine blk_put (cs := #[.int .i64 t265, .int .i64 0, .slice none 0 0, .slice none 0 0]) ?_ 1 _ rfl; (with_reducible repeat (first | refine blk_drewN ?_ _ | refine blk_drew ?_ | refine blk_alloc ?_ _)); refine blk_put (cs := #[.int .i64 0, .int .i64 0, .slice none 0 0, .slice none 0 0]) ?_ 0 _ rfl; (with_reducible repeat (first | refine blk_drewN ?_ _ | refine blk_drew ?_ | refine blk_alloc ?_ _)); refine blk_far ?_ NB264_273.out _; (with_reducible repeat (first | refine blk_drewN ?_ _ | refine blk_drew ?_ | refine blk_alloc ?_ _)); exact BK264.out) Try.underlying28 rfl (by kernel_rfl)) rfl ?_
   exact ⟨_, _, er_, by (with_reducible repeat (first | apply Kd.R_alloc | apply Kd.R_drewN | apply Kd.R_drew)); exact Kd.R_mono (Kd.R_far (p := ⟨gb264, 3, none⟩) (Kd.R_far (p := ⟨gb264, 2, none⟩) (Kd.R_far (p := ⟨gb264, 1, none⟩) (Kd.R_far (p := ⟨gb264, 0, none⟩) (Kd.R_far (p := ⟨gb273, 3, none⟩) (Kd.R_types (Kd.R_types HO269.out BK273.out (by decide)) BK264.out (by decide)) (fun _ hk => hk.1.2) (.slice Ao45 t277.length co45)) (fun _ hk => hk.2) (.int .i64 t265)) (fun _ hk => hk.2) (.int .i64 t266)) (fun _ hk => hk.2) (.slice Ao37 t267.length co37)) (fun _ hk => hk.2) (.slice Ao45 t277.length co45)) (fun _ hk => hk.1.1), by (with_reducible repeat (first | apply Kd.R_alloc | apply Kd.R_drewN | apply Kd.R_drew)); exact Kd.R_mono (Kd.R_far (p := ⟨gb264, 3, none⟩) (Kd.R_far (p := ⟨gb264, 2, none⟩) (Kd.R_far (p := ⟨gb264, 1, none⟩) (Kd.R_far (p := ⟨gb264, 0, none⟩) (Kd.R_far (p := ⟨gb273, 3, none⟩) (Kd.R_types (Kd.R_types HO279.out BK273.out (by decide)) BK264.out (by decide)) (fun _ hk => hk.1.2) (.slice Ao45 t277.length co45)) (fun _ hk => hk.2) (.int .i64 t265)) (fun _ hk => hk.2) (.int .i64 t266)) (fun _ hk => hk.2) (.slice Ao37 t267.length co37)) (fun _ hk => hk.2) (.slice Ao45 t277.length co45)) (fun _ hk => hk.1.1), bl3_ HB.out GE263.out GE264.out GE273.out⟩
  ·replace c26 := Bool.eq_false_iff.mpr c26
   subst c26
   have H1 : ((spec_l1Put.f k t267 t274).bind fun t280 => (some (t265, t266, t280, t270))) = some (r1, r2, r3, r4) := by rw [if_neg (show ¬ (false = true) by decide)] at H; exact H
   clear H
   have H := H1
   clear H1
   replace H := Option.bind_eq_some_iff.mp H
   obtain ⟨t280, A480, H⟩ := H
   replace H : (some (t265, t266, t280, t270)) = some (r1, r2, r3, r4) := H
   have A48 := Aside0.mk A480
   clear A480
   simp only [Option.some.injEq, Prod.mk.injEq] at H
   obtain ⟨rfl, rfl, rfl, rfl⟩ := H
   go_enter Try.func152, Try.ntmps152
   go_wp2_with (first | ((with_reducible refine gate_dst (N := 4) rfl ?_); refine boxE_ (N := 4) (cs := #[.int .i64 a0_0, .int .i64 a0_1, .slice A0_2 l0_2.length c0_2, .slice A0_3 l0_3.length c0_3]) (t := 28) ?_; intro gb263 hg w49 hbox hb; have n0_ := Aside0.mk (below_step (bl0_ HB.out) hb); have n1_ := Aside0.mk (hbox); have n2_ := Aside0.mk ((bs0_ hg HB.out : w.heap.size ≤ gb263)); have n3_ := Aside0.mk ((bs0_ hg HB.out : w.heap.size ≤ gb263)); clear HB; have HB := n0_; have BK263 := n1_; have GW263 := n2_; have GE263 := n3_; clear n0_ n1_ n2_ n3_; clear hb hbox hg) | ((with_reducible refine gate_dst (N := 8) rfl ?_); refine boxE_ (N := 8) (cs := #[.int .i64 0, .int .i64 0, .slice none 0 0, .slice none 0 0]) (t := 28) ?_; intro gb264 hg w50 hbox hb; have n0_ := Aside0.mk (bb_ BK263.out hb); have n1_ := Aside0.mk (below_step (bl1_ HB.out GE263.out) hb); have n2_ := Aside0.mk (hbox); have n3_ := Aside0.mk ((bs1_ hg HB.out GE263.out : w.heap.size ≤ gb264)); have n4_ := Aside0.mk ((bs1_ hg HB.out GE263.out : w.heap.size ≤ gb264)); have n5_ := Aside0.mk ((nl_ hg BK263.out : gb263 ≠ gb264)); have n6_ := Aside0.mk ((ng_ hg BK263.out : gb264 ≠ gb263)); clear BK263; clear HB; have BK263 := n0_; have HB := n1_; have BK264 := n2_; have GW264 := n3_; have GE264 := n4_; have NB263_264 := n5_; have NB264_263 := n6_; clear n0_ n1_ n2_ n3_ n4_ n5_ n6_; clear hb hbox hg; have hnb51 := NB263_264.out; have hnc51 := NB264_263.out; have hcz52_0 : w50.cell? ⟨gb263, 0, none⟩ = some (.int .i64 a0_0) := (blk_cell BK263.out 0).trans rfl; have hcz52_1 : w50.cell? ⟨gb263, 1, none⟩ = some (.int .i64 a0_1) := (blk_cell BK263.out 1).trans rfl; have hcz52_2 : w50.cell? ⟨gb263, 2, none⟩ = some (.slice A0_2 l0_2.length c0_2) := (blk_cell BK263.out 2).trans rfl; have hcz52_3 : w50.cell? ⟨gb263, 3, none⟩ = some (.slice A0_3 l0_3.length c0_3) := (blk_cell BK263.out 3).trans rfl; have hfz52_0 := blk_frozen BK263.out 0; have hfz52_1 := blk_frozen BK263.out 1; have hfz52_2 := blk_frozen BK263.out 2; have hfz52_3 := blk_frozen BK263.out 3) | ((with_reducible refine gate_callee (f := 176) rfl ?_); refine goesL_ (some 13) rfl rfl Try.func176 (by kernel_rfl) rfl #[.agg #[.int .i64 a0_0, .int .i64 a0_1, .slice A0_2 l0_2.length c0_2, .slice A0_3 l0_3.length c0_3]] rfl ob_ ?_; (with_reducible refine (spec_fiOwn.calls a0_0 a0_1 _ _ l0_2 _ _ l0_3 t265 t266 t267 t270 _ ?side1 ?side2 ?side3 ?side4 A5.out).mono ?_); (case side1 => exact kc_ (Kd.C_below HR0_2.out HB.out)); (case side2 => exact HC0_2.out); (case side3 => exact kc_ (Kd.C_below HR0_3.out HB.out)); (case side4 => exact HC0_3.out); rintro e w53 ⟨v268, v271, rfl, ho0, ho1, hb⟩; refine ⟨_, rfl, ?_⟩; have n0_ := Aside0.mk (Kd.R_lower ho0 (below_size (bl2_ HB.out GE263.out GE264.out))); have n1_ := Aside0.mk (Kd.R_lower ho1 (below_size (bl2_ HB.out GE263.out GE264.out))); have n2_ := Aside0.mk (bb_ BK263.out hb); have n3_ := Aside0.mk (bb_ BK264.out hb); have n4_ := Aside0.mk (below_step (bl2_ HB.out GE263.out GE264.out) hb); clear BK263; clear BK264; clear HB; have HO269 := n0_; have HO272 := n1_; have BK263 := n2_; have BK264 := n3_; have HB := n4_; clear n0_ n1_ n2_ n3_ n4_; (try clear hb); (try clear hb2); (try clear hk); (try clear hi); (try clear ho0); (try clear ho1)) | ((with_reducible refine gate_dst (N := 9) rfl ?_); refine boxE_ (N := 9) (cs := #[.int .i64 0, .int .i64 0, .slice none 0 0, .slice none 0 0]) (t := 28) ?_; intro gb273 hg w54 hbox hb; have n0_ := Aside0.mk (Kd.R_below (kr_ HO269.out) hb); have n1_ := Aside0.mk (Kd.R_below (kr_ HO272.out) hb); have n2_ := Aside0.mk (bb_ BK263.out hb); have n3_ := Aside0.mk (bb_ BK264.out hb); have n4_ := Aside0.mk (below_step (bl2_ HB.out GE263.out GE264.out) hb); have n5_ := Aside0.mk (hbox); have n6_ := Aside0.mk ((bs2_ hg HB.out GE263.out GE264.out : w.heap.size ≤ gb273)); have n7_ := Aside0.mk ((bs2_ hg HB.out GE263.out GE264.out : w.heap.size ≤ gb273)); have n8_ := Aside0.mk ((nl_ hg BK263.out : gb263 ≠ gb273)); have n9_ := Aside0.mk ((ng_ hg BK263.out : gb273 ≠ gb263)); have n10_ := Aside0.mk ((nl_ hg BK264.out : gb264 ≠ gb273)); have n11_ := Aside0.mk ((ng_ hg BK264.out : gb273 ≠ gb264)); clear HO269; clear HO272; clear BK263; clear BK264; clear HB; have HO269 := n0_; have HO272 := n1_; have BK263 := n2_; have BK264 := n3_; have HB := n4_; have BK273 := n5_; have GW273 := n6_; have GE273 := n7_; have NB263_273 := n8_; have NB273_263 := n9_; have NB264_273 := n10_; have NB273_264 := n11_; clear n0_ n1_ n2_ n3_ n4_ n5_ n6_ n7_ n8_ n9_ n10_ n11_; clear hb hbox hg; have hnb55 := NB273_263.out; have hnc55 := NB263_273.out; have hnb56 := NB273_264.out; have hnc56 := NB264_273.out; have hcz57_0 : w54.cell? ⟨gb273, 0, none⟩ = some (.int .i64 0) := (blk_cell BK273.out 0).trans rfl; have hcz57_1 : w54.cell? ⟨gb273, 1, none⟩ = some (.int .i64 0) := (blk_cell BK273.out 1).trans rfl; have hcz57_2 : w54.cell? ⟨gb273, 2, none⟩ = some (.slice none 0 0) := (blk_cell BK273.out 2).trans rfl; have hcz57_3 : w54.cell? ⟨gb273, 3, none⟩ = some (.slice none 0 0) := (blk_cell BK273.out 3).trans rfl; have hfz57_0 := blk_frozen BK273.out 0; have hfz57_1 := blk_frozen BK273.out 1; have hfz57_2 := blk_frozen BK273.out 2; have hfz57_3 := blk_frozen BK273.out 3; obtain ⟨Ao58, co58, eo58⟩ := Kd.R_slice HO269.out; subst eo58; obtain ⟨Ao59, co59, eo59⟩ := Kd.R_slice HO272.out; subst eo59; have hcz60_0 : w54.cell? ⟨gb263, 0, none⟩ = some (.int .i64 a0_0) := (blk_cell BK263.out 0).trans rfl; have hcz60_1 : w54.cell? ⟨gb263, 1, none⟩ = some (.int .i64 a0_1) := (blk_cell BK263.out 1).trans rfl; have hcz60_2 : w54.cell? ⟨gb263, 2, none⟩ = some (.slice A0_2 l0_2.length c0_2) := (blk_cell BK263.out 2).trans rfl; have hcz60_3 : w54.cell? ⟨gb263, 3, none⟩ = some (.slice A0_3 l0_3.length c0_3) := (blk_cell BK263.out 3).trans rfl; have hfz60_0 := blk_frozen BK263.out 0; have hfz60_1 := blk_frozen BK263.out 1; have hfz60_2 := blk_frozen BK263.out 2; have hfz60_3 := blk_frozen BK263.out 3) | ((with_reducible refine gate_callee (f := 91) rfl ?_); refine goesL_ (some 19) rfl rfl Try.func91 (by kernel_rfl) rfl #[.agg #[.int .i64 a0_0, .int .i64 a0_1, .slice A0_2 l0_2.length c0_2, .slice A0_3 l0_3.length c0_3], .bool false, .int .i64 a2, .int .i64 a3] rfl ob_ ?_; (with_reducible refine (spec_fiEdge.calls a0_0 a0_1 _ _ l0_2 _ _ l0_3 false a2 a3 t274 t275 _ ?side1 ?side2 ?side3 ?side4 A6.out).mono ?_); (case side1 => exact Kd.C_below HR0_2.out (bl3_ HB.out GE263.out GE264.out GE273.out)); (case side2 => exact HC0_2.out); (case side3 => exact Kd.C_below HR0_3.out (bl3_ HB.out GE263.out GE264.out GE273.out)); (case side4 => exact HC0_3.out); rintro e w61 ⟨rfl, hb⟩; refine ⟨_, rfl, ?_⟩; have n0_ := Aside0.mk (Kd.R_below (by (with_reducible repeat (first | apply Kd.R_alloc | apply Kd.R_drewN | apply Kd.R_drew)); exact (Kd.R_mono (Kd.R_far (p := ⟨gb273, 3, none⟩) (Kd.R_far (p := ⟨gb273, 2, none⟩) (Kd.R_far (p := ⟨gb273, 1, none⟩) (Kd.R_far (p := ⟨gb273, 0, none⟩) (Kd.R_types HO269.out BK273.out (by decide)) (fun _ hk => hk.2) (.int .i64 t265)) (fun _ hk => hk.2) (.int .i64 t266)) (fun _ hk => hk.2) (.slice Ao58 t267.length co58)) (fun _ hk => hk.2) (.slice Ao59 t270.length co59)) (fun _ h_ => h_.1))) hb); have n1_ := Aside0.mk (Kd.R_below (by (with_reducible repeat (first | apply Kd.R_alloc | apply Kd.R_drewN | apply Kd.R_drew)); exact (Kd.R_mono (Kd.R_far (p := ⟨gb273, 3, none⟩) (Kd.R_far (p := ⟨gb273, 2, none⟩) (Kd.R_far (p := ⟨gb273, 1, none⟩) (Kd.R_far (p := ⟨gb273, 0, none⟩) (Kd.R_types HO272.out BK273.out (by decide)) (fun _ hk => hk.2) (.int .i64 t265)) (fun _ hk => hk.2) (.int .i64 t266)) (fun _ hk => hk.2) (.slice Ao58 t267.length co58)) (fun _ hk => hk.2) (.slice Ao59 t270.length co59)) (fun _ h_ => h_.1))) hb); have n2_ := Aside0.mk (blk_below (g := gb263) (o := .cells #[.int .i64 a0_0, .int .i64 a0_1, .slice A0_2 l0_2.length c0_2, .slice A0_3 l0_3.length c0_3] 28 (0, 0)) (bf4_ NB263_273.out NB263_273.out NB263_273.out NB263_273.out BK263.out) hb); have n3_ := Aside0.mk (blk_below (g := gb264) (o := .cells #[.int .i64 0, .int .i64 0, .slice none 0 0, .slice none 0 0] 28 (0, 0)) (bf4_ NB264_273.out NB264_273.out NB264_273.out NB264_273.out BK264.out) hb); have n4_ := Aside0.mk (blk_below (g := gb273) (o := .cells #[.int .i64 t265, .int .i64 t266, .slice Ao58 t267.length co58, .slice Ao59 t270.length co59] 28 (0, 0)) (by (with_reducible repeat (first | refine blk_drewN ?_ _ | refine blk_drew ?_ | refine blk_alloc ?_ _)); refine blk_put (cs := #[.int .i64 t265, .int .i64 t266, .slice Ao58 t267.length co58, .slice none 0 0]) ?_ 3 _ rfl; (with_reducible repeat (first | refine blk_drewN ?_ _ | refine blk_drew ?_ | refine blk_alloc ?_ _)); refine blk_put (cs := #[.int .i64 t265, .int .i64 t266, .slice none 0 0, .slice none 0 0]) ?_ 2 _ rfl; (with_reducible repeat (first | refine blk_drewN ?_ _ | refine blk_drew ?_ | refine blk_alloc ?_ _)); refine blk_put (cs := #[.int .i64 t265, .int .i64 0, .slice none 0 0, .slice none 0 0]) ?_ 1 _ rfl; (with_reducible repeat (first | refine blk_drewN ?_ _ | refine blk_drew ?_ | refine blk_alloc ?_ _)); refine blk_put (cs := #[.int .i64 0, .int .i64 0, .slice none 0 0, .slice none 0 0]) ?_ 0 _ rfl; (with_reducible repeat (first | refine blk_drewN ?_ _ | refine blk_drew ?_ | refine blk_alloc ?_ _)); exact BK273.out) hb); have n5_ := Aside0.mk (below_step (bl3_ HB.out GE263.out GE264.out GE273.out) hb); clear HO269; clear HO272; clear BK263; clear BK264; clear BK273; clear HB; have HO269 := n0_; have HO272 := n1_; have BK263 := n2_; have BK264 := n3_; have BK273 := n4_; have HB := n5_; clear n0_ n1_ n2_ n3_ n4_ n5_; (try clear hb); (try clear hb2); (try clear hk); (try clear hi); have hcz62_0 : w61.cell? ⟨gb263, 0, none⟩ = some (.int .i64 a0_0) := (blk_cell BK263.out 0).trans rfl; have hcz62_1 : w61.cell? ⟨gb263, 1, none⟩ = some (.int .i64 a0_1) := (blk_cell BK263.out 1).trans rfl; have hcz62_2 : w61.cell? ⟨gb263, 2, none⟩ = some (.slice A0_2 l0_2.length c0_2) := (blk_cell BK263.out 2).trans rfl; have hcz62_3 : w61.cell? ⟨gb263, 3, none⟩ = some (.slice A0_3 l0_3.length c0_3) := (blk_cell BK263.out 3).trans rfl; have hfz62_0 := blk_frozen BK263.out 0; have hfz62_1 := blk_frozen BK263.out 1; have hfz62_2 := blk_frozen BK263.out 2; have hfz62_3 := blk_frozen BK263.out 3) | ((with_reducible refine gate_callee (f := 90) rfl ?_); refine goesL_ (some 32) rfl rfl Try.func90 (by kernel_rfl) rfl #[.agg #[.int .i64 a0_0, .int .i64 a0_1, .slice A0_2 l0_2.length c0_2, .slice A0_3 l0_3.length c0_3], .bool false, .int .i64 a2, .int .i64 a3] rfl ob_ ?_; (with_reducible refine (spec_fiHas.calls k a0_0 a0_1 _ _ l0_2 _ _ l0_3 false a2 a3 false _ ?side1 ?side2 ?side3 ?side4 A7.out).mono ?_); (case side1 => exact kc_ (Kd.C_below HR0_2.out HB.out)); (case side2 => exact HC0_2.out); (case side3 => exact kc_ (Kd.C_below HR0_3.out HB.out)); (case side4 => exact HC0_3.out); rintro e w63 ⟨rfl, hb⟩; refine ⟨_, rfl, ?_⟩; have n0_ := Aside0.mk (Kd.R_below (kr_ HO269.out) hb); have n1_ := Aside0.mk (Kd.R_below (kr_ HO272.out) hb); have n2_ := Aside0.mk (bb_ BK263.out hb); have n3_ := Aside0.mk (bb_ BK264.out hb); have n4_ := Aside0.mk (bb_ BK273.out hb); have n5_ := Aside0.mk (below_step (bl3_ HB.out GE263.out GE264.out GE273.out) hb); clear HO269; clear HO272; clear BK263; clear BK264; clear BK273; clear HB; have HO269 := n0_; have HO272 := n1_; have BK263 := n2_; have BK264 := n3_; have BK273 := n4_; have HB := n5_; clear n0_ n1_ n2_ n3_ n4_ n5_; (try clear hb); (try clear hb2); (try clear hk); (try clear hi); have hcz64_0 : w63.cell? ⟨gb273, 0, none⟩ = some (.int .i64 t265) := (blk_cell BK273.out 0).trans rfl; have hcz64_1 : w63.cell? ⟨gb273, 1, none⟩ = some (.int .i64 t266) := (blk_cell BK273.out 1).trans rfl; have hcz64_2 : w63.cell? ⟨gb273, 2, none⟩ = some (.slice Ao58 t267.length co58) := (blk_cell BK273.out 2).trans rfl; have hcz64_3 : w63.cell? ⟨gb273, 3, none⟩ = some (.slice Ao59 t270.length co59) := (blk_cell BK273.out 3).trans rfl; have hfz64_0 := blk_frozen BK273.out 0; have hfz64_1 := blk_frozen BK273.out 1; have hfz64_2 := blk_frozen BK273.out 2; have hfz64_3 := blk_frozen BK273.out 3) | ((with_reducible refine gate_callee (f := 145) rfl ?_); refine goesL_ (some 25) rfl rfl Try.func145 (by kernel_rfl) rfl #[.slice Ao58 t267.length co58, .int .i64 t274] rfl ob_ ?_; (with_reducible refine (spec_l1Put.calls k (fun k_ => some k_ = (.slice Ao58 t267.length co58 : Value).ownBlock) (.slice Ao58 t267.length co58) t267 t274 t280 w _ ?side1 ?side2 A48.out).mono ?_); (case side1 => repeat (first | (with_reducible first | exact HB.out | apply below_alloc | apply pw_below_drewN | apply below_drew1 | refine below_set ?_ GE263.out | refine below_set ?_ GE264.out | refine below_set ?_ GE273.out) | exact HB.out)); (case side2 => exact Kd.R_tight rfl HO269.out); rintro e w65 ⟨v281, rfl, ho0, hb, hkp⟩; refine ⟨_, rfl, ?_⟩; have n0_ := Aside0.mk (blk_kept (bk_ BK263.out) hkp (fun hs_ => (fun e_ => (Kd.R_ne HO269.out BK263.out (by decide)) e_) hs_)); have n1_ := Aside0.mk (blk_kept (bk_ BK264.out) hkp (fun hs_ => (fun e_ => (Kd.R_ne HO269.out BK264.out (by decide)) e_) hs_)); have n2_ := Aside0.mk (Kd.R_mono (ok' := fun k_ => some k_ ≠ (v281 : Value).ownBlock) (Kd.R_keptB (HO272.out) hkp (fun k_ hk_ hs_ => (hk_) hs_)) (fun k_ hk_ => fun e_ => Or.elim (ho0.1 k_ e_.symm) (fun hs_ => hk_.2.1 hs_) (fun hn_ => Nat.not_le.2 hk_.2.2 hn_))); have n3_ := Aside0.mk (blk_kept (bk_ BK273.out) hkp (fun hs_ => (fun e_ => (Kd.R_ne HO269.out BK273.out (by decide)) e_) hs_)); have n4_ := Aside0.mk (Kd.R_mono (ok' := fun k_ => some k_ ≠ (.slice Ao59 t270.length co59 : Value).ownBlock) ho0 (fun k_ hk_ => Or.elim hk_ (fun hs_ => fun e_ => (((HO272.out).1 k_ e_.symm)) hs_) (fun hn_ => (Kd.fresh' (Kd.R_lt (kr_ HO272.out)) k_ hn_)))); have n5_ := Aside0.mk (hb); clear BK263; clear BK264; clear HO272; clear BK273; clear HB; clear HO269; have BK263 := n0_; have BK264 := n1_; have HO272 := n2_; have BK273 := n3_; have HO282 := n4_; have HB := n5_; clear n0_ n1_ n2_ n3_ n4_ n5_; (try clear hb); (try clear hkp); (try clear ho0); obtain ⟨Ao66, co66, eo66⟩ := Kd.R_slice HO282.out; subst eo66; have hcz67_0 : w65.cell? ⟨gb273, 0, none⟩ = some (.int .i64 t265) := (blk_cell BK273.out 0).trans rfl; have hcz67_1 : w65.cell? ⟨gb273, 1, none⟩ = some (.int .i64 t266) := (blk_cell BK273.out 1).trans rfl; have hcz67_2 : w65.cell? ⟨gb273, 2, none⟩ = some (.slice Ao58 t267.length co58) := (blk_cell BK273.out 2).trans rfl; have hcz67_3 : w65.cell? ⟨gb273, 3, none⟩ = some (.slice Ao59 t270.length co59) := (blk_cell BK273.out 3).trans rfl; have hfz67_0 := blk_frozen BK273.out 0; have hfz67_1 := blk_frozen BK273.out 1; have hfz67_2 := blk_frozen BK273.out 2; have hfz67_3 := blk_frozen BK273.out 3; have hcz68_0 : w65.cell? ⟨gb264, 0, none⟩ = some (.int .i64 0) := (blk_cell BK264.out 0).trans rfl; have hcz68_1 : w65.cell? ⟨gb264, 1, none⟩ = some (.int .i64 0) := (blk_cell BK264.out 1).trans rfl; have hcz68_2 : w65.cell? ⟨gb264, 2, none⟩ = some (.slice none 0 0) := (blk_cell BK264.out 2).trans rfl; have hcz68_3 : w65.cell? ⟨gb264, 3, none⟩ = some (.slice none 0 0) := (blk_cell BK264.out 3).trans rfl; have hfz68_0 := blk_frozen BK264.out 0; have hfz68_1 := blk_frozen BK264.out 1; have hfz68_2 := blk_frozen BK264.out 2; have hfz68_3 := blk_frozen BK264.out 3))
   refine bodyPost_ret (results_cell_row rfl _ _ gb264 28 #[.int .i64 t265, .int .i64 t266, .slice Ao66 t280.length co66, .slice Ao59 t270.length co59] (0, 0) _ rfl (by (with_reducible repeat (first | refine blk_drewN ?_ _ | refine blk_drew ?_ | refine blk_alloc ?_ _)); refine blk_put (cs := #[.int .i64 t265, .int .i64 t266, .slice Ao66 t280.length co66, .slice none 0 0]) ?_ 3 _ rfl; (with_reducible repeat (first | refine blk_drewN ?_ _ | refine blk_drew ?_ | refine blk_alloc ?_ _)); refine blk_put (cs := #[.int .i64 t265, .int .i64 t266, .slice none 0 0, .slice none 0 0]) ?_ 2 _ rfl; (with_reducible repeat (first | refine blk_drewN ?_ _ | refine blk_drew ?_ | refine blk_alloc ?_ _)); refine blk_put (cs := #[.int .i64 t265, .int .i64 0, .slice none 0 0, .slice none 0 0]) ?_ 1 _ rfl; (with_reducible repeat (first | refine blk_drewN ?_ _ | refine blk_drew ?_ | refine blk_alloc ?_ _)); refine blk_put (cs := #[.int .i64 0, .int .i64 0, .slice none 0 0, .slice none 0 0]) ?_ 0 _ rfl; (with_reducible repeat (first | refine blk_drewN ?_ _ | refine blk_drew ?_ | refine blk_alloc ?_ _)); refine blk_far ?_ NB264_273.out _; (with_reducible repeat (first | refine blk_drewN ?_ _ | refine blk_drew ?_ | refine blk_alloc ?_ _)); exact BK264.out) Try.underlying28 rfl (by kernel_rfl)) rfl ?_
   exact ⟨_, _, er_, by (with_reducible repeat (first | apply Kd.R_alloc | apply Kd.R_drewN | apply Kd.R_drew)); exact Kd.R_mono (Kd.R_far (p := ⟨gb264, 3, none⟩) (Kd.R_far (p := ⟨gb264, 2, none⟩) (Kd.R_far (p := ⟨gb264, 1, none⟩) (Kd.R_far (p := ⟨gb264, 0, none⟩) (Kd.R_far (p := ⟨gb273, 2, none⟩) (Kd.R_types (Kd.R_types HO282.out BK273.out (by decide)) BK264.out (by decide)) (fun _ hk => hk.1.2) (.slice Ao66 t280.length co66)) (fun _ hk => hk.2) (.int .i64 t265)) (fun _ hk => hk.2) (.int .i64 t266)) (fun _ hk => hk.2) (.slice Ao66 t280.length co66)) (fun _ hk => hk.2) (.slice Ao59 t270.length co59)) (fun _ hk => hk.1.1), by (with_reducible repeat (first | apply Kd.R_alloc | apply Kd.R_drewN | apply Kd.R_drew)); exact Kd.R_mono (Kd.R_far (p := ⟨gb264, 3, none⟩) (Kd.R_far (p := ⟨gb264, 2, none⟩) (Kd.R_far (p := ⟨gb264, 1, none⟩) (Kd.R_far (p := ⟨gb264, 0, none⟩) (Kd.R_far (p := ⟨gb273, 2, none⟩) (Kd.R_types (Kd.R_types HO272.out BK273.out (by decide)) BK264.out (by decide)) (fun _ hk => hk.1.2) (.slice Ao66 t280.length co66)) (fun _ hk => hk.2) (.int .i64 t265)) (fun _ hk => hk.2) (.int .i64 t266)) (fun _ hk => hk.2) (.slice Ao66 t280.length co66)) (fun _ hk => hk.2) (.slice Ao59 t270.length co59)) (fun _ hk => hk.1.1), bl3_ HB.out GE263.out GE264.out GE273.out⟩


theorem eqA36 (d : Nat) (w : World) (x0 y0 : Int) (x1 y1 : Int) :
    (Op.equalIn (d + 2) 36 (.agg #[.int .i64 x0, .int .i64 x1]) (.agg #[.int .i64 y0, .int .i64 y1])).run Try.prog w = .ok (x0 == y0 && (x1 == y1)) w := by
  refine eqA_of Try.underlying36 (by kernel_rfl) ?_
  refine eqf_cons (by rfl) (by go_simp; rfl) (by go_simp; rfl) (by go_simp) ?_
  exact eqf_last (by rfl) (by go_simp; rfl) (by go_simp; rfl) (by go_simp)
end Go.Proofs.Ytjhndaehdbjgkaa.P
namespace Go.Proofs.Ytjhndaehdbjgkaa.P
open Go.RowKit Go.Proofs.YtjhndaehdbjgkaaW.PrintWords Go.Proofs.YtjhndaehdbjgkaaW.PrintLast Go.Proofs.YtjhndaehdbjgkaaW.PrintMore
attribute [local go_sem] max2_int min2_int max_two min_two max_three min_three max_four min_four   -- for this text's walks alone
set_option linter.unusedVariables false
set_option linter.unusedSimpArgs false

attribute [local go_sem high] eqA36
def spec_liHas.l0 : Nat → List (S36) → Int → Int → Int → Int → Option (Bool)
 | 0, _, _, _, _, _ => none
 | k + 1, x7, x8, x9, x284000, x284001 => if x9 < x8 then (if 0 ≤ x9 then (if x9 < (x7.length : Int) then (if (((rd_T36 x7 x9).f0) == x284000 && (((rd_T36 x7 x9).f1) == x284001)) = true then (some true) else (spec_liHas.l0 k x7 x8 (wrap64 (x9 + 1)) x284000 x284001)) else (none)) else (none)) else (some false)
def spec_liHas.f (k : Nat) (l0 : List (S36)) (a1_0 : Int) (a1_1 : Int) : Option (Bool) := spec_liHas.l0 k l0 (l0.length : Int) 0 a1_0 a1_1
theorem spec_liHas.mono_l : ∀ k, (∀ y0 y1 y2 y3 y4, LeO (spec_liHas.l0 k y0 y1 y2 y3 y4) (spec_liHas.l0 (k + 1) y0 y1 y2 y3 y4))
 | 0 => fun _ _ _ _ _ r h => by simp [spec_liHas.l0] at h
 | k + 1 => by
  have ih0 := spec_liHas.mono_l k
  ·intro y0 y1 y2 y3 y4
   unfold spec_liHas.l0
   repeat' first
   | (with_reducible exact ih0 _ _ _ _ _)
   | (with_reducible exact LeO.refl _)
   | (with_reducible exact LeO.none _)
   | (with_reducible refine LeO.ite ?_ ?_)
   | (with_reducible refine LeO.bind ?_ (fun _ => ?_))
   | exact ih0 _ _ _ _ _
   | exact LeO.none _
   | refine LeO.ite ?_ ?_
   | refine LeO.bind ?_ (fun _ => ?_)
theorem spec_liHas.mono : ∀ a0 a1 a2 k, LeO (spec_liHas.f k a0 a1 a2) (spec_liHas.f (k + 1) a0 a1 a2) := by
 intro a0 a1 a2 k
 have ih0 := spec_liHas.mono_l k
 unfold spec_liHas.f
 repeat' first
   | (with_reducible exact ih0 _ _ _ _ _)
   | (with_reducible exact LeO.refl _)
   | (with_reducible exact LeO.none _)
   | (with_reducible refine LeO.ite ?_ ?_)
   | (with_reducible refine LeO.bind ?_ (fun _ => ?_))
   | exact ih0 _ _ _ _ _
   | exact LeO.none _
   | refine LeO.ite ?_ ?_
   | refine LeO.bind ?_ (fun _ => ?_)
set_option maxHeartbeats 8000000 in
set_option maxRecDepth 100000 in
theorem spec_liHas.calls (k : Nat) (A0 : Option Addr) (c0 : Nat) (l0 : List (S36)) (a1_0 : Int) (a1_1 : Int) (r : Bool) (w : World) (hr0 : Kd.C k36 w A0 l0.length l0) (hc0 : l0.length ≤ c0) (h : spec_liHas.f k l0 a1_0 a1_1 = some r) :
  Calls Try.prog 77 #[.slice A0 l0.length c0, .agg #[.int .i64 a1_0, .int .i64 a1_1]] w fun e w' => e = .returned (.bool r) ∧ Below w.heap.size w w' := by
 have hu36 := Try.underlying36
 have HR0 := Aside0.mk hr0
 have HC0 := Aside0.mk hc0
 clear hr0 hc0
 have HB := Aside0.mk (Below.refl w.heap.size w)
 have H : (spec_liHas.l0 k l0 (l0.length : Int) 0 a1_0 a1_1) = some r := h
 clear h
 have H' := Aside0.mk H
 clear H
 go_enter Try.func77, Try.ntmps77
 go_wp2_with (first | ((with_reducible refine gate_dst (N := 3) rfl ?_); refine boxE_ (N := 3) (cs := #[.int .i64 a1_0, .int .i64 a1_1]) (t := 36) ?_; intro gb283 hg w3 hbox hb; have n0_ := Aside0.mk (below_step (bl0_ HB.out) hb); have n1_ := Aside0.mk (hbox); have n2_ := Aside0.mk ((bs0_ hg HB.out : w.heap.size ≤ gb283)); have n3_ := Aside0.mk ((bs0_ hg HB.out : w.heap.size ≤ gb283)); clear HB; have HB := n0_; have BK283 := n1_; have GW283 := n2_; have GE283 := n3_; clear n0_ n1_ n2_ n3_; clear hb hbox hg))
 go_loopg [9] k (fun kq v9 w' => ∃ (x9_1 : Int), v9 = .int .i64 x9_1 ∧ Aside0 (spec_liHas.l0 kq l0 (l0.length : Int) x9_1 a1_0 a1_1 = some r) ∧ Aside0 (kq ≤ k) ∧ Aside0 (w'.heap[gb283]? = some (.cells #[.int .i64 a1_0, .int .i64 a1_1] 36 (0, 0))) ∧ Aside0 (Below w.heap.size w w'))
 case atStart => exact ⟨(0), rs_, H', ⟨Nat.le_refl _⟩, ⟨bk_ BK283.out⟩, ⟨bl1_ HB.out GE283.out⟩⟩
 case round =>
  clear H'
  try clear p2
  obtain ⟨x9_1, rfl, HA, HK1, BK283, HB⟩ := hrel
  cases gk with
  | zero => exact absurd HA.out (by simp [spec_liHas.l0])
  | succ k1 =>
   have H := HA.out
   clear HA
   simp only [spec_liHas.l0] at H
   by_cases c4 : x9_1 < (l0.length : Int)
   ·rw [if_pos c4] at H
    have c4b0 : decide (x9_1 < (l0.length : Int)) = true := decide_eq_true c4
    clear c4
    by_cases c5 : 0 ≤ x9_1
    ·rw [if_pos c5] at H
     have c5b0 : decide (0 ≤ x9_1) = true := decide_eq_true c5
     clear c5
     by_cases c6 : x9_1 < (l0.length : Int)
     ·rw [if_pos c6] at H
      have c6b0 : decide (x9_1 < (l0.length : Int)) = true := decide_eq_true c6
      clear c6
      by_cases c7 : (((rd_T36 l0 x9_1).f0) == a1_0 && (((rd_T36 l0 x9_1).f1) == a1_1)) = true
      ·rw [if_pos c7] at H
       have c7b0 : (((rd_T36 l0 x9_1).f0) == a1_0 && (((rd_T36 l0 x9_1).f1) == a1_1)) = true := c7
       (try (have c7b1 : decide (((rd_T36 l0 x9_1).f0) = a1_0 && (((rd_T36 l0 x9_1).f1) == a1_1)) = true := by simpa using c7))
       (try (have c7b2 : (((rd_T36 l0 x9_1).f0) == a1_0 && (((rd_T36 l0 x9_1).f1) == a1_1)) = true := by simpa using c7))
       clear c7
       obtain rfl := Option.some.inj H
       have p284 : 0 ≤ (x9_1 : Int) := of_decide_eq_true as_
       have q284 : x9_1 < (l0.length : Int) := of_decide_eq_true as_
       obtain ⟨ad284, e284, hx284_0, hx284_1⟩ := at_T36 HR0.out x9_1 p284 q284
       cases e284
       replace hx284_0 := (HB.out.cell (World.block_lt_of_cell? w _ hx284_0)).trans hx284_0
       replace hx284_1 := (HB.out.cell (World.block_lt_of_cell? w _ hx284_1)).trans hx284_1
       replace p284 := eq_true p284
       replace q284 := eq_true q284
       go_wp2_with (first | ((with_reducible refine gate_dst (N := 6) rfl ?_); refine boxE_ (N := 6) (cs := #[.int .i64 0, .int .i64 0]) (t := 36) ?_; intro gb285 hg w8 hbox hb; have n0_ := Aside0.mk (bb_ BK283.out hb); have n1_ := Aside0.mk (below_step (bl1_ HB.out GE283.out) hb); have n2_ := Aside0.mk (hbox); have n3_ := Aside0.mk ((bs1_ hg HB.out GE283.out : w.heap.size ≤ gb285)); have n4_ := Aside0.mk ((bs1_ hg HB.out GE283.out : w.heap.size ≤ gb285)); have n5_ := Aside0.mk ((nl_ hg BK283.out : gb283 ≠ gb285)); have n6_ := Aside0.mk ((ng_ hg BK283.out : gb285 ≠ gb283)); clear BK283; clear HB; have BK283 := n0_; have HB := n1_; have BK285 := n2_; have GW285 := n3_; have GE285 := n4_; have NB283_285 := n5_; have NB285_283 := n6_; clear n0_ n1_ n2_ n3_ n4_ n5_ n6_; clear hb hbox hg; have hnb9 := NB285_283.out; have hnc9 := NB283_285.out; have hcz10_0 : w8.cell? ⟨gb285, 0, none⟩ = some (.int .i64 0) := (blk_cell BK285.out 0).trans rfl; have hcz10_1 : w8.cell? ⟨gb285, 1, none⟩ = some (.int .i64 0) := (blk_cell BK285.out 1).trans rfl; have hfz10_0 := blk_frozen BK285.out 0; have hfz10_1 := blk_frozen BK285.out 1; have hcz11_0 : w8.cell? ⟨gb283, 0, none⟩ = some (.int .i64 a1_0) := (blk_cell BK283.out 0).trans rfl; have hcz11_1 : w8.cell? ⟨gb283, 1, none⟩ = some (.int .i64 a1_1) := (blk_cell BK283.out 1).trans rfl; have hfz11_0 := blk_frozen BK283.out 0; have hfz11_1 := blk_frozen BK283.out 1))
       go_ret
       exact ⟨er_, bl2_ HB.out GE283.out GE285.out⟩
      ·rw [if_neg c7] at H
       have c7b0 : (((rd_T36 l0 x9_1).f0) == a1_0 && (((rd_T36 l0 x9_1).f1) == a1_1)) = false := by simpa using c7
       (try (have c7b1 : decide (((rd_T36 l0 x9_1).f0) = a1_0 && (((rd_T36 l0 x9_1).f1) == a1_1)) = false := by simpa using c7))
       (try (have c7b2 : (((rd_T36 l0 x9_1).f0) == a1_0 && (((rd_T36 l0 x9_1).f1) == a1_1)) = false := by simpa using c7))
       (try (have c7b3 : ¬ (((rd_T36 l0 x9_1).f0) = a1_0 && (((rd_T36 l0 x9_1).f1) == a1_1)) := by simpa using c7))
       clear c7
       have H' := Aside0.mk H
       clear H
       have p284 : 0 ≤ (x9_1 : Int) := of_decide_eq_true as_
       have q284 : x9_1 < (l0.length : Int) := of_decide_eq_true as_
       obtain ⟨ad284, e284, hx284_0, hx284_1⟩ := at_T36 HR0.out x9_1 p284 q284
       cases e284
       replace hx284_0 := (HB.out.cell (World.block_lt_of_cell? w _ hx284_0)).trans hx284_0
       replace hx284_1 := (HB.out.cell (World.block_lt_of_cell? w _ hx284_1)).trans hx284_1
       replace p284 := eq_true p284
       replace q284 := eq_true q284
       go_wp2_with (first | ((with_reducible refine gate_dst (N := 6) rfl ?_); refine boxE_ (N := 6) (cs := #[.int .i64 0, .int .i64 0]) (t := 36) ?_; intro gb285 hg w12 hbox hb; have n0_ := Aside0.mk (bb_ BK283.out hb); have n1_ := Aside0.mk (below_step (bl1_ HB.out GE283.out) hb); have n2_ := Aside0.mk (hbox); have n3_ := Aside0.mk ((bs1_ hg HB.out GE283.out : w.heap.size ≤ gb285)); have n4_ := Aside0.mk ((bs1_ hg HB.out GE283.out : w.heap.size ≤ gb285)); have n5_ := Aside0.mk ((nl_ hg BK283.out : gb283 ≠ gb285)); have n6_ := Aside0.mk ((ng_ hg BK283.out : gb285 ≠ gb283)); clear BK283; clear HB; have BK283 := n0_; have HB := n1_; have BK285 := n2_; have GW285 := n3_; have GE285 := n4_; have NB283_285 := n5_; have NB285_283 := n6_; clear n0_ n1_ n2_ n3_ n4_ n5_ n6_; clear hb hbox hg; have hnb13 := NB285_283.out; have hnc13 := NB283_285.out; have hcz14_0 : w12.cell? ⟨gb285, 0, none⟩ = some (.int .i64 0) := (blk_cell BK285.out 0).trans rfl; have hcz14_1 : w12.cell? ⟨gb285, 1, none⟩ = some (.int .i64 0) := (blk_cell BK285.out 1).trans rfl; have hfz14_0 := blk_frozen BK285.out 0; have hfz14_1 := blk_frozen BK285.out 1; have hcz15_0 : w12.cell? ⟨gb283, 0, none⟩ = some (.int .i64 a1_0) := (blk_cell BK283.out 0).trans rfl; have hcz15_1 : w12.cell? ⟨gb283, 1, none⟩ = some (.int .i64 a1_1) := (blk_cell BK283.out 1).trans rfl; have hfz15_0 := blk_frozen BK283.out 0; have hfz15_1 := blk_frozen BK283.out 1))
       go_roundg k1
       case measure => have := HK1.out; omega
       case rel => exact ⟨(wrap64 (x9_1 + 1)), rs_, H', ⟨by have := HK1.out; omega⟩, ⟨bf2_ NB283_285.out NB283_285.out BK283.out⟩, ⟨bl2_ HB.out GE283.out GE285.out⟩⟩
     ·rw [if_neg c6] at H
      exact absurd H (by simp)
    ·rw [if_neg c5] at H
     exact absurd H (by simp)
   ·rw [if_neg c4] at H
    have c4b0 : decide (x9_1 < (l0.length : Int)) = false := decide_eq_false c4
    clear c4
    obtain rfl := Option.some.inj H
    go_wp2
    go_ret
    exact ⟨er_, bl1_ HB.out GE283.out⟩

end Go.Proofs.Ytjhndaehdbjgkaa.P
namespace Go.Proofs.Ytjhndaehdbjgkaa.P
open Go.RowKit Go.Proofs.YtjhndaehdbjgkaaW.PrintWords Go.Proofs.YtjhndaehdbjgkaaW.PrintLast Go.Proofs.YtjhndaehdbjgkaaW.PrintMore
attribute [local go_sem] max2_int min2_int max_two min_two max_three min_three max_four min_four   -- for this text's walks alone
set_option linter.unusedVariables false
set_option linter.unusedSimpArgs false

mutual
def spec_liReach.l0 : Nat → List (S36) → Int → Int → Int → List Int → List Int → Option ((List (S36)))
 | 0, _, _, _, _, _, _ => none
 | k + 1, x5, x6, x287000, x287001, x287002, x287003 => if x6 < (x5.length : Int) then (spec_liReach.l1 k x5 x6 0 x287000 x287001 x287002 x287003) else (some x5)
def spec_liReach.l1 : Nat → List (S36) → Int → Int → Int → Int → List Int → List Int → Option ((List (S36)))
 | 0, _, _, _, _, _, _, _ => none
 | k + 1, x5, x6, x7, x287000, x287001, x287002, x287003 => if x7 < 4 then (if 0 ≤ x6 then (if x6 < (x5.length : Int) then ((spec_liNext.f k x287000 x287001 x287002 x287003 ((rd_T36 x5 x6).f0) ((rd_T36 x5 x6).f1) x7).bind fun bt292 => (if bt292.2.2 = true then ((spec_liHas.f k x5 bt292.1 bt292.2.1).bind fun t296 => (if t296 = true then (spec_liReach.l1 k x5 x6 (wrap64 (x7 + 1)) x287000 x287001 x287002 x287003) else (if x5.length < 8796093022208 then (spec_liReach.l1 k (x5 ++ [(⟨bt292.1, bt292.2.1⟩ : S36)]) x6 (wrap64 (x7 + 1)) x287000 x287001 x287002 x287003) else (none)))) else (spec_liReach.l1 k x5 x6 (wrap64 (x7 + 1)) x287000 x287001 x287002 x287003))) else (none)) else (none)) else (spec_liReach.l0 k x5 (wrap64 (x6 + 1)) x287000 x287001 x287002 x287003)
end
def spec_liReach.f (k : Nat) (a0_0 : Int) (a0_1 : Int) (l0_2 : List Int) (l0_3 : List Int) (a1_0 : Int) (a1_1 : Int) : Option ((List (S36))) := spec_liReach.l0 k (([(⟨a1_0, a1_1⟩ : S36)] : List (S36))) 0 a0_0 a0_1 l0_2 l0_3
theorem spec_liReach.mono_l : ∀ k, (∀ y0 y1 y2 y3 y4 y5, LeO (spec_liReach.l0 k y0 y1 y2 y3 y4 y5) (spec_liReach.l0 (k + 1) y0 y1 y2 y3 y4 y5)) ∧ (∀ y0 y1 y2 y3 y4 y5 y6, LeO (spec_liReach.l1 k y0 y1 y2 y3 y4 y5 y6) (spec_liReach.l1 (k + 1) y0 y1 y2 y3 y4 y5 y6))
 | 0 => ⟨fun _ _ _ _ _ _ r h => by simp [spec_liReach.l0] at h, fun _ _ _ _ _ _ _ r h => by simp [spec_liReach.l1] at h⟩
 | k + 1 => by
  obtain ⟨ih0, ih1⟩ := spec_liReach.mono_l k
  refine ⟨?_, ?_⟩
  ·intro y0 y1 y2 y3 y4 y5
   unfold spec_liReach.l0
   repeat' first
   | (with_reducible exact ih0 _ _ _ _ _ _)
   | (with_reducible exact ih1 _ _ _ _ _ _ _)
   | (with_reducible exact spec_liHas.mono _ _ _ _)
   | (with_reducible exact spec_liNext.mono _ _ _ _ _ _ _ _)
   | (with_reducible exact LeO.refl _)
   | (with_reducible exact LeO.none _)
   | (with_reducible refine LeO.ite ?_ ?_)
   | (with_reducible refine LeO.bind ?_ (fun _ => ?_))
   | exact ih0 _ _ _ _ _ _
   | exact ih1 _ _ _ _ _ _ _
   | exact spec_liHas.mono _ _ _ _
   | exact spec_liNext.mono _ _ _ _ _ _ _ _
   | exact LeO.none _
   | refine LeO.ite ?_ ?_
   | refine LeO.bind ?_ (fun _ => ?_)
  ·intro y0 y1 y2 y3 y4 y5 y6
   unfold spec_liReach.l1
   repeat' first
   | (with_reducible exact ih0 _ _ _ _ _ _)
   | (with_reducible exact ih1 _ _ _ _ _ _ _)
   | (with_reducible exact spec_liHas.mono _ _ _ _)
   | (with_reducible exact spec_liNext.mono _ _ _ _ _ _ _ _)
   | (with_reducible exact LeO.refl _)
   | (with_reducible exact LeO.none _)
   | (with_reducible refine LeO.ite ?_ ?_)
   | (with_reducible refine LeO.bind ?_ (fun _ => ?_))
   | exact ih0 _ _ _ _ _ _
   | exact ih1 _ _ _ _ _ _ _
   | exact spec_liHas.mono _ _ _ _
   | exact spec_liNext.mono _ _ _ _ _ _ _ _
   | exact LeO.none _
   | refine LeO.ite ?_ ?_
   | refine LeO.bind ?_ (fun _ => ?_)
theorem spec_liReach.mono : ∀ a0 a1 a2 a3 a4 a5 k, LeO (spec_liReach.f k a0 a1 a2 a3 a4 a5) (spec_liReach.f (k + 1) a0 a1 a2 a3 a4 a5) := by
 intro a0 a1 a2 a3 a4 a5 k
 obtain ⟨ih0, ih1⟩ := spec_liReach.mono_l k
 unfold spec_liReach.f
 repeat' first
   | (with_reducible exact ih0 _ _ _ _ _ _)
   | (with_reducible exact ih1 _ _ _ _ _ _ _)
   | (with_reducible exact spec_liHas.mono _ _ _ _)
   | (with_reducible exact spec_liNext.mono _ _ _ _ _ _ _ _)
   | (with_reducible exact LeO.refl _)
   | (with_reducible exact LeO.none _)
   | (with_reducible refine LeO.ite ?_ ?_)
   | (with_reducible refine LeO.bind ?_ (fun _ => ?_))
   | exact ih0 _ _ _ _ _ _
   | exact ih1 _ _ _ _ _ _ _
   | exact spec_liHas.mono _ _ _ _
   | exact spec_liNext.mono _ _ _ _ _ _ _ _
   | exact LeO.none _
   | refine LeO.ite ?_ ?_
   | refine LeO.bind ?_ (fun _ => ?_)
def spec_liReach.T8 : Bool × List (List Nat × List Nat) := (true, [([], []), ([], []), ([], []), ([1, 2], [1, 2]), ([3], [3]), ([], []), ([0, 4, 5], [0, 4, 5]), ([6], [6]), ([7], [7]), ([7], [7]), ([], []), ([10, 8, 6, 0, 1, 2, 3, 4, 5, 6, 7, 8, 10], [8, 10]), ([9, 11, 0, 1, 2, 3, 4, 5, 6, 7, 8, 9, 10, 11], [9])])
def spec_liReach.B8 : List Nat := [0, 0, 0, 6, 14, 0, 63, 127, 255, 255, 0, 1535, 4095]
theorem spec_liReach.tab8 : rtab .any (opsOf Try.f175 8) = spec_liReach.T8 := by kernel_rfl
theorem spec_liReach.bits8 : waitsOk spec_liReach.T8.2 spec_liReach.B8 = true := by kernel_rfl
set_option maxHeartbeats 8000000 in
set_option maxRecDepth 100000 in
theorem spec_liReach.calls (k : Nat) (a0_0 : Int) (a0_1 : Int) (A0_2 : Option Addr) (c0_2 : Nat) (l0_2 : List Int) (A0_3 : Option Addr) (c0_3 : Nat) (l0_3 : List Int) (a1_0 : Int) (a1_1 : Int) (r : List (S36)) (w : World) (hr0_2 : Kd.C (Kd.int .i64) w A0_2 l0_2.length l0_2) (hc0_2 : l0_2.length ≤ c0_2) (hr0_3 : Kd.C (Kd.int .i64) w A0_3 l0_3.length l0_3) (hc0_3 : l0_3.length ≤ c0_3) (h : spec_liReach.f k a0_0 a0_1 l0_2 l0_3 a1_0 a1_1 = some r) :
  Calls Try.prog 175 #[.agg #[.int .i64 a0_0, .int .i64 a0_1, .slice A0_2 l0_2.length c0_2, .slice A0_3 l0_3.length c0_3], .agg #[.int .i64 a1_0, .int .i64 a1_1]] w fun e w' => ∃ v0_ : Value, e = .returned (v0_) ∧ Kd.R k36 36 w' w.heap.size (fun _ => True) v0_ r ∧ Below w.heap.size w w' := by
 have hu28 := Try.underlying28
 have hu36 := Try.underlying36
 have HR0_2 := Aside0.mk hr0_2
 have HC0_2 := Aside0.mk hc0_2
 clear hr0_2 hc0_2
 have HR0_3 := Aside0.mk hr0_3
 have HC0_3 := Aside0.mk hc0_3
 clear hr0_3 hc0_3
 have HB := Aside0.mk (Below.refl w.heap.size w)
 have H : (spec_liReach.l0 k (([(⟨a1_0, a1_1⟩ : S36)] : List (S36))) 0 a0_0 a0_1 l0_2 l0_3) = some r := h
 clear h
 obtain ⟨y288, hy288⟩ : ∃ y_ : List (S36), y_ = (([(⟨a1_0, a1_1⟩ : S36)] : List (S36))) := ⟨_, rfl⟩
 replace H : (spec_liReach.l0 k y288 0 a0_0 a0_1 l0_2 l0_3) = some r := by first | (rw [hy288]; with_reducible exact H) | (have H2_ := (Option.bind_some _ _).symm.trans H; rw [hy288]; with_reducible exact H2_) | (have H2_ := (Option.bind_some _ _).symm.trans H; with_reducible exact H2_) | with_reducible exact H | (rw [hy288]; exact H) | exact H
 have Ny288 := Aside0.mk hy288
 clear hy288
 have H' := Aside0.mk H
 clear H
 go_enter Try.func175, Try.ntmps175
 go_wp2_with (first | ((with_reducible refine gate_dst (N := 2) rfl ?_); refine boxE_ (N := 2) (cs := #[.int .i64 a0_0, .int .i64 a0_1, .slice A0_2 l0_2.length c0_2, .slice A0_3 l0_3.length c0_3]) (t := 28) ?_; intro gb286 hg w3 hbox hb; have n0_ := Aside0.mk (below_step (bl0_ HB.out) hb); have n1_ := Aside0.mk (hbox); have n2_ := Aside0.mk ((bs0_ hg HB.out : w.heap.size ≤ gb286)); have n3_ := Aside0.mk ((bs0_ hg HB.out : w.heap.size ≤ gb286)); clear HB; have HB := n0_; have BK286 := n1_; have GW286 := n2_; have GE286 := n3_; clear n0_ n1_ n2_ n3_; clear hb hbox hg) | ((with_reducible refine gate_dst (N := 3) rfl ?_); refine boxE_ (N := 3) (cs := #[.int .i64 a1_0, .int .i64 a1_1]) (t := 36) ?_; intro gb287 hg w4 hbox hb; have n0_ := Aside0.mk (bb_ BK286.out hb); have n1_ := Aside0.mk (below_step (bl1_ HB.out GE286.out) hb); have n2_ := Aside0.mk (hbox); have n3_ := Aside0.mk ((bs1_ hg HB.out GE286.out : w.heap.size ≤ gb287)); have n4_ := Aside0.mk ((bs1_ hg HB.out GE286.out : w.heap.size ≤ gb287)); have n5_ := Aside0.mk ((nl_ hg BK286.out : gb286 ≠ gb287)); have n6_ := Aside0.mk ((ng_ hg BK286.out : gb287 ≠ gb286)); clear BK286; clear HB; have BK286 := n0_; have HB := n1_; have BK287 := n2_; have GW287 := n3_; have GE287 := n4_; have NB286_287 := n5_; have NB287_286 := n6_; clear n0_ n1_ n2_ n3_ n4_ n5_ n6_; clear hb hbox hg; have hnb5 := NB287_286.out; have hnc5 := NB286_287.out; have hcz6_0 : w4.cell? ⟨gb287, 0, none⟩ = some (.int .i64 a1_0) := (blk_cell BK287.out 0).trans rfl; have hcz6_1 : w4.cell? ⟨gb287, 1, none⟩ = some (.int .i64 a1_1) := (blk_cell BK287.out 1).trans rfl; have hfz6_0 := blk_frozen BK287.out 0; have hfz6_1 := blk_frozen BK287.out 1) | ((with_reducible refine gate_dst (N := 11) rfl ?_); refine Kd.R_lit k36 _ 36 ?hg (N := 11) ?hd (xs := ([(⟨a1_0, a1_1⟩ : S36)] : List (S36))) (inner := [.int .i64 a1_0, .int .i64 a1_1]) (ok := fun _ => True) (okp := fun _ => True) ?hr ?hp (fun _ hk => hk) trivial (Below.refl _ _) (Nat.le_refl _) (by simp) ?_; (case hd => rfl); (case hg => rfl); (case hr => first | (go_simp; done) | (go_simp; rfl)); (case hp => exact (Reps.c2 (show Kd.M k36 _ _ _ (⟨a1_0, a1_1⟩ : S36) [.int .i64 a1_0, .int .i64 a1_1] from (k36_mkM _ _ _ (⟨a1_0, a1_1⟩ : S36) )) (Reps.none _ _))); intro v289 w7 ho8 hb hg_ hnew_; clear hg_ hnew_; (first | rw [← Ny288.out] at ho8 | (simp only [Int.reduceToNat] at ho8; rw [← Ny288.out] at ho8)); have n0_ := Aside0.mk (Kd.R_lower (Kd.R_newB ho8 (g := gb287) (o := .cells #[.int .i64 a1_0, .int .i64 a1_1] 36 (0, 0)) (bk_ BK287.out)) (below_size (bl2_ HB.out GE286.out GE287.out))); have n1_ := Aside0.mk (bb_ BK286.out hb); have n2_ := Aside0.mk (bb_ BK287.out hb); have n3_ := Aside0.mk (below_step (bl2_ HB.out GE286.out GE287.out) hb); clear BK286; clear BK287; clear HB; have HO290 := n0_; have BK286 := n1_; have BK287 := n2_; have HB := n3_; clear n0_ n1_ n2_ n3_; clear hb ho8))
 go_loopg [5, 6] k (fun kq v5 v6 w' => ∃ (x5_1 : List (S36)) (x6_1 : Int), v6 = .int .i64 x6_1 ∧ Aside0 (spec_liReach.l0 kq x5_1 x6_1 a0_0 a0_1 l0_2 l0_3 = some r) ∧ Aside0 (kq ≤ k) ∧ Aside0 (Kd.R k36 36 w' w.heap.size (fun k_ => k_ ≠ gb287) v5 x5_1) ∧ Aside0 (w'.heap[gb286]? = some (.cells #[.int .i64 a0_0, .int .i64 a0_1, (.slice A0_2 l0_2.length c0_2), (.slice A0_3 l0_3.length c0_3)] 28 (0, 0))) ∧ Aside0 (w'.heap[gb287]? = some (.cells #[.int .i64 a1_0, .int .i64 a1_1] 36 (0, 0))) ∧ Aside0 (Below w.heap.size w w'))
 case atStart => exact ⟨(y288), (0), rs_, H', ⟨Nat.le_refl _⟩, ⟨by (with_reducible repeat (first | apply Kd.R_alloc | apply Kd.R_drewN | apply Kd.R_drew)); exact Kd.R_mono HO290.out (fun _ hk => hk.2)⟩, ⟨bk_ BK286.out⟩, ⟨bk_ BK287.out⟩, ⟨bl2_ HB.out GE286.out GE287.out⟩⟩
 case round =>
  clear H'
  try clear c1
  try clear c2
  try clear p2
  try clear c5
  try clear hcz6_0
  try clear hcz6_1
  try clear hfz6_0
  try clear hfz6_1
  obtain ⟨x5_1, x6_1, rfl, HA, HK1, HO_5, BK286, BK287, HB⟩ := hrel
  cases gk with
  | zero => exact absurd HA.out (by simp [spec_liReach.l0])
  | succ k1 =>
   have H := HA.out
   clear HA
   simp only [spec_liReach.l0] at H
   by_cases c9 : x6_1 < (x5_1.length : Int)
   ·rw [if_pos c9] at H
    have c9b0 : decide (x6_1 < (x5_1.length : Int)) = true := decide_eq_true c9
    clear c9
    have H' := Aside0.mk H
    clear H
    obtain ⟨Ao10, co10, eo10⟩ := Kd.R_slice HO_5.out
    subst eo10
    go_wp2
    go_loopg [5, 7] k1 (fun kq v5 v7 w' => ∃ (x5_2 : List (S36)) (x7_2 : Int), v7 = .int .i64 x7_2 ∧ Aside0 (spec_liReach.l1 kq x5_2 x6_1 x7_2 a0_0 a0_1 l0_2 l0_3 = some r) ∧ Aside0 (kq ≤ k1) ∧ Aside0 (Kd.R k36 36 w' w.heap.size (fun k_ => k_ ≠ gb287) v5 x5_2) ∧ Aside0 (w'.heap[gb286]? = some (.cells #[.int .i64 a0_0, .int .i64 a0_1, (.slice A0_2 l0_2.length c0_2), (.slice A0_3 l0_3.length c0_3)] 28 (0, 0))) ∧ Aside0 (w'.heap[gb287]? = some (.cells #[.int .i64 a1_0, .int .i64 a1_1] 36 (0, 0))) ∧ Aside0 (Below w.heap.size w w'))
    case atStart => exact ⟨(x5_1), (0), rs_, H', ⟨Nat.le_refl _⟩, ⟨kr_ HO_5.out⟩, ⟨bk_ BK286.out⟩, ⟨bk_ BK287.out⟩, ⟨bl2_ HB.out GE286.out GE287.out⟩⟩
    case round =>
     clear H'
     try clear c1
     try clear c2
     try clear p2
     try clear c5
     try clear c9
     try clear c9b0
     try clear hcz6_0
     try clear hcz6_1
     try clear hfz6_0
     try clear hfz6_1
     try clear p2
     obtain ⟨x5_2, x7_2, rfl, HA, HK2, HO_5, BK286, BK287, HB⟩ := hrel
     cases gk with
     | zero => exact absurd HA.out (by simp [spec_liReach.l1])
     | succ k2 =>
      have H := HA.out
      clear HA
      simp only [spec_liReach.l1] at H
      by_cases c11 : x7_2 < 4
      ·rw [if_pos c11] at H
       have c11b0 : decide (x7_2 < 4) = true := decide_eq_true c11
       clear c11
       by_cases c12 : 0 ≤ x6_1
       ·rw [if_pos c12] at H
        have c12b0 : decide (0 ≤ x6_1) = true := decide_eq_true c12
        clear c12
        by_cases c13 : x6_1 < (x5_2.length : Int)
        ·rw [if_pos c13] at H
         have c13b0 : decide (x6_1 < (x5_2.length : Int)) = true := decide_eq_true c13
         clear c13
         replace H := Option.bind_eq_some_iff.mp H
         obtain ⟨⟨t292, t293, t294⟩, A140, H⟩ := H
         replace H : (if t294 = true then ((spec_liHas.f k2 x5_2 t292 t293).bind fun t296 => (if t296 = true then (spec_liReach.l1 k2 x5_2 x6_1 (wrap64 (x7_2 + 1)) a0_0 a0_1 l0_2 l0_3) else (if x5_2.length < 8796093022208 then (spec_liReach.l1 k2 (x5_2 ++ [(⟨t292, t293⟩ : S36)]) x6_1 (wrap64 (x7_2 + 1)) a0_0 a0_1 l0_2 l0_3) else (none)))) else (spec_liReach.l1 k2 x5_2 x6_1 (wrap64 (x7_2 + 1)) a0_0 a0_1 l0_2 l0_3)) = some r := H
         have A14 := Aside0.mk A140
         clear A140
         by_cases c15 : t294 = true
         ·subst c15
          have H1 : ((spec_liHas.f k2 x5_2 t292 t293).bind fun t296 => (if t296 = true then (spec_liReach.l1 k2 x5_2 x6_1 (wrap64 (x7_2 + 1)) a0_0 a0_1 l0_2 l0_3) else (if x5_2.length < 8796093022208 then (spec_liReach.l1 k2 (x5_2 ++ [(⟨t292, t293⟩ : S36)]) x6_1 (wrap64 (x7_2 + 1)) a0_0 a0_1 l0_2 l0_3) else (none)))) = some r := by rw [if_pos rfl] at H; exact H
          clear H
          have H := H1
          clear H1
          replace H := Option.bind_eq_some_iff.mp H
          obtain ⟨t296, A160, H⟩ := H
          replace H : (if t296 = true then (spec_liReach.l1 k2 x5_2 x6_1 (wrap64 (x7_2 + 1)) a0_0 a0_1 l0_2 l0_3) else (if x5_2.length < 8796093022208 then (spec_liReach.l1 k2 (x5_2 ++ [(⟨t292, t293⟩ : S36)]) x6_1 (wrap64 (x7_2 + 1)) a0_0 a0_1 l0_2 l0_3) else (none))) = some r := H
          have A16 := Aside0.mk A160
          clear A160
          by_cases c17 : t296 = true
          ·subst c17
           have H1 : (spec_liReach.l1 k2 x5_2 x6_1 (wrap64 (x7_2 + 1)) a0_0 a0_1 l0_2 l0_3) = some r := by rw [if_pos rfl] at H; exact H
           clear H
           have H := H1
           clear H1
           have H' := Aside0.mk H
           clear H
           try go_wp2
           have n0_ := Aside0.mk (Kd.R_drew HO_5.out)
           have n1_ := Aside0.mk (blk_drew BK286.out)
           have n2_ := Aside0.mk (blk_drew BK287.out)
           have n3_ := Aside0.mk (below_drew1 HB.out)
           clear HO_5
           clear BK286
           clear BK287
           clear HB
           have HO_5 := n0_
           have BK286 := n1_
           have BK287 := n2_
           have HB := n3_
           clear n0_ n1_ n2_ n3_
           obtain ⟨Ao19, co19, eo19⟩ := Kd.R_slice HO_5.out
           (first | subst eo19 | (injection eo19 with f1_ f2_ f3_; have f4_ := f1_.symm; have f5_ := f3_.symm; clear f1_ f2_ f3_; subst f4_; subst f5_))
           have p291 : 0 ≤ (x6_1 : Int) := of_decide_eq_true as_
           have q291 : x6_1 < (x5_2.length : Int) := of_decide_eq_true as_
           obtain ⟨ad291, e291, hx291_0, hx291_1⟩ := at_T36 (Kd.R_reads' HO_5.out).2.2 x6_1 p291 q291
           cases e291
           replace p291 := eq_true p291
           replace q291 := eq_true q291
           refine start_ (n := 13) (S := fun w' => w'.cell? ⟨gb286, 0, none⟩ = some (.int .i64 a0_0) ∧ w'.cell? ⟨gb286, 1, none⟩ = some (.int .i64 a0_1) ∧ w'.cell? ⟨gb286, 2, none⟩ = some (.slice A0_2 l0_2.length c0_2) ∧ w'.cell? ⟨gb286, 3, none⟩ = some (.slice A0_3 l0_3.length c0_3) ∧ w'.cell? (ad291.add ((x6_1).toNat * 2)) = some (.int .i64 ((rd_T36 x5_2 x6_1).f0)) ∧ w'.cell? ⟨(ad291.add ((x6_1).toNat * 2)).block, (ad291.add ((x6_1).toNat * 2)).off + 1, none⟩ = some (.int .i64 ((rd_T36 x5_2 x6_1).f1))) (ds := []) #[Ff, Ff, Ff, Ff, Ff, Ff, Ff, Ff, Ff, Ff, Ff, Ff, Ff] (by kernel_rfl) rfl rfl ⟨(blk_cell BK286.out 0).trans rfl, (blk_cell BK286.out 1).trans rfl, (blk_cell BK286.out 2).trans rfl, (blk_cell BK286.out 3).trans rfl, hx291_0, hx291_1⟩ (fun hHeld => ?_); refine with_tabW spec_liReach.tab8 spec_liReach.bits8 (fun HT_ HW_ => ?_)
           generalize wr.drew = w18 at HO_5 BK286 BK287 HB hx291_0 hx291_1 hHeld ⊢
           refine pZ (i := 1) (N := some 24) #[Ff, Tt, Ff, Ff, Ff, Ff, Ff, Ff, Ff, Ff, Ff, Ff, Ff] ?_
           refine pZ (i := 2) (N := some 25) #[Ff, Tt, Tt, Ff, Ff, Ff, Ff, Ff, Ff, Ff, Ff, Ff, Ff] ?_
           refine pZ (i := 3) (N := some 26) #[Ff, Tt, Tt, Tt, Ff, Ff, Ff, Ff, Ff, Ff, Ff, Ff, Ff] ?_
           refine pZ (i := 5) (N := some 28) #[Ff, Tt, Tt, Tt, Ff, Tt, Ff, Ff, Ff, Ff, Ff, Ff, Ff] ?_
           refine tZ (i := 0) (N := some 23) #[Tt, Tt, Tt, Tt, Ff, Tt, Ff, Ff, Ff, Ff, Ff, Ff, Ff] ?_
           refine tZ (i := 4) (N := some 27) #[Tt, Tt, Tt, Tt, Tt, Tt, Ff, Ff, Ff, Ff, Ff, Ff, Ff] ?_
           refine join_ (σ := Nat) 2 #[Tt, Tt, Tt, Tt, Tt, Tt, Tt, Tt, Tt, Tt, Tt, Ff, Ff] (fun s_ => [(29, .tuple #[.agg #[.int .i64 t292, .int .i64 t293], .bool true]), (8, .pointer (some ⟨s_, 0, none⟩)), (22, .tuple #[.agg #[.int .i64 t292, .int .i64 t293], .bool true]), (30, .agg #[.int .i64 t292, .int .i64 t293]), (31, .bool true)]) (fun s_ w' => (w'.cell? ⟨gb286, 0, none⟩ = some (.int .i64 a0_0) ∧ w'.cell? ⟨gb286, 1, none⟩ = some (.int .i64 a0_1) ∧ w'.cell? ⟨gb286, 2, none⟩ = some (.slice A0_2 l0_2.length c0_2) ∧ w'.cell? ⟨gb286, 3, none⟩ = some (.slice A0_3 l0_3.length c0_3) ∧ w'.cell? (ad291.add ((x6_1).toNat * 2)) = some (.int .i64 ((rd_T36 x5_2 x6_1).f0)) ∧ w'.cell? ⟨(ad291.add ((x6_1).toNat * 2)).block, (ad291.add ((x6_1).toNat * 2)).off + 1, none⟩ = some (.int .i64 ((rd_T36 x5_2 x6_1).f1))) ∧ (Kd.R k36 36 w' w.heap.size (fun k_ => k_ ≠ gb287 ∧ k_ ≠ s_) (.slice (some ad291) x5_2.length co19) x5_2) ∧ (w'.heap[gb286]? = some (.cells #[.int .i64 a0_0, .int .i64 a0_1, .slice A0_2 l0_2.length c0_2, .slice A0_3 l0_3.length c0_3] 28 (0, 0))) ∧ (w'.heap[gb287]? = some (.cells #[.int .i64 a1_0, .int .i64 a1_1] 36 (0, 0))) ∧ (w'.heap[s_]? = some (.cells #[.int .i64 0, .int .i64 0] 36 (0, 0))) ∧ (w.heap.size ≤ s_) ∧ (w.heap.size ≤ s_) ∧ (gb286 ≠ s_) ∧ (s_ ≠ gb286) ∧ (gb287 ≠ s_) ∧ (s_ ≠ gb287) ∧ (Below w.heap.size w w')) ?_ ?_
           rotate_left
           ·intro hCont
            refine two_ (i := 6) (j := 10) (Ni := some 29) (Nj := some 8) #[Tt, Tt, Tt, Tt, Tt, Tt, Tt, Ff, Ff, Ff, Ff, Ff, Ff] #[Tt, Tt, Tt, Tt, Tt, Tt, Ff, Ff, Ff, Ff, Tt, Ff, Ff] rfl rfl rfl rfl (two_of HT_.out (by kernel_rfl)) (by decide) (by decide) (fun K hK => ?_) (fun K hK => ?_)
            ·skip
             refine goes_ Try.func76 (by kernel_rfl) rfl #[.agg #[.int .i64 a0_0, .int .i64 a0_1, .slice A0_2 l0_2.length c0_2, .slice A0_3 l0_3.length c0_3], .agg #[.int .i64 ((rd_T36 x5_2 x6_1).f0), .int .i64 ((rd_T36 x5_2 x6_1).f1)], .int .i64 x7_2] (by rfl) rfl rfl ob_ ?_
             with_reducible refine (spec_liNext.calls k2 a0_0 a0_1 _ _ l0_2 _ _ l0_3 ((rd_T36 x5_2 x6_1).f0) ((rd_T36 x5_2 x6_1).f1) x7_2 t292 t293 true _ ?side1 ?side2 ?side3 ?side4 A14.out).mono ?_
             (case side1 => exact kc_ (Kd.C_below HR0_2.out HB.out))
             (case side2 => exact HC0_2.out)
             (case side3 => exact kc_ (Kd.C_below HR0_3.out HB.out))
             (case side4 => exact HC0_3.out)
             rintro e w20 ⟨rfl, hb⟩
             have HS4_ := (hb.cell (World.block_lt_of_cell? _ _ (hHeld.2.2.2.2.1))).trans (hHeld.2.2.2.2.1)
             have HS5_ := (hb.cell (World.block_lt_of_cell? _ _ (hHeld.2.2.2.2.2))).trans (hHeld.2.2.2.2.2)
             refine ⟨_, rfl, ?_⟩
             have n0_ := Aside0.mk (Kd.R_below (kr_ HO_5.out) hb)
             have n1_ := Aside0.mk (bb_ BK286.out hb)
             have n2_ := Aside0.mk (bb_ BK287.out hb)
             have n3_ := Aside0.mk (below_step (bl2_ HB.out GE286.out GE287.out) hb)
             clear HO_5
             clear BK286
             clear BK287
             clear HB
             have HO_5 := n0_
             have BK286 := n1_
             have BK287 := n2_
             have HB := n3_
             clear n0_ n1_ n2_ n3_
             (try clear hb)
             (try clear hb2)
             (try clear hk)
             (try clear hi)
             refine hK.out _ _ ⟨(blk_cell BK286.out 0).trans rfl, (blk_cell BK286.out 1).trans rfl, (blk_cell BK286.out 2).trans rfl, (blk_cell BK286.out 3).trans rfl, HS4_, HS5_⟩ (fun hHeld => ?_)
             clear hK K
             refine norm_ (a' := _) ap_ ?_
             refine pZ (i := 7) (N := some 22) #[Tt, Tt, Tt, Tt, Tt, Tt, Tt, Tt, Ff, Ff, Ff, Ff, Ff] ?_
             refine pZ (i := 8) (N := some 30) #[Tt, Tt, Tt, Tt, Tt, Tt, Tt, Tt, Tt, Ff, Ff, Ff, Ff] ?_
             refine pZ (i := 9) (N := some 31) #[Tt, Tt, Tt, Tt, Tt, Tt, Tt, Tt, Tt, Tt, Ff, Ff, Ff] ?_
             refine one_ (i := 10) (N := some 8) #[Tt, Tt, Tt, Tt, Tt, Tt, Tt, Tt, Tt, Tt, Tt, Ff, Ff] rfl rfl (one_of HT_.out (by kernel_rfl)) (by decide) (fun K hK => ?_)
             refine box_step ?hg (N := 8) ?hd (cs := #[.int .i64 0, .int .i64 0]) (t := 36) ?hr ?_; (case hd => rfl); (case hg => rfl); (case hr => first | (go_simp; done) | (go_simp; rfl))
             intro gb295 hg w21 hbox hb
             have HS4_ := (hb.cell (World.block_lt_of_cell? _ _ (hHeld.2.2.2.2.1))).trans (hHeld.2.2.2.2.1)
             have HS5_ := (hb.cell (World.block_lt_of_cell? _ _ (hHeld.2.2.2.2.2))).trans (hHeld.2.2.2.2.2)
             have n0_ := Aside0.mk (Kd.R_below (Kd.R_elderB (kr_ HO_5.out) gb295 (Nat.le_of_eq hg.symm)) hb)
             have n1_ := Aside0.mk (bb_ BK286.out hb)
             have n2_ := Aside0.mk (bb_ BK287.out hb)
             have n3_ := Aside0.mk (below_step (bl2_ HB.out GE286.out GE287.out) hb)
             have n4_ := Aside0.mk (hbox)
             have n5_ := Aside0.mk ((bs2_ hg HB.out GE286.out GE287.out : w.heap.size ≤ gb295))
             have n6_ := Aside0.mk ((bs2_ hg HB.out GE286.out GE287.out : w.heap.size ≤ gb295))
             have n7_ := Aside0.mk ((nl_ hg BK286.out : gb286 ≠ gb295))
             have n8_ := Aside0.mk ((ng_ hg BK286.out : gb295 ≠ gb286))
             have n9_ := Aside0.mk ((nl_ hg BK287.out : gb287 ≠ gb295))
             have n10_ := Aside0.mk ((ng_ hg BK287.out : gb295 ≠ gb287))
             clear HO_5
             clear BK286
             clear BK287
             clear HB
             have HO_5 := n0_
             have BK286 := n1_
             have BK287 := n2_
             have HB := n3_
             have BK295 := n4_
             have GW295 := n5_
             have GE295 := n6_
             have NB286_295 := n7_
             have NB295_286 := n8_
             have NB287_295 := n9_
             have NB295_287 := n10_
             clear n0_ n1_ n2_ n3_ n4_ n5_ n6_ n7_ n8_ n9_ n10_
             clear hb hbox hg
             refine hK.out _ _ ⟨(blk_cell BK286.out 0).trans rfl, (blk_cell BK286.out 1).trans rfl, (blk_cell BK286.out 2).trans rfl, (blk_cell BK286.out 3).trans rfl, HS4_, HS5_⟩ (fun hHeld => ?_)
             clear hK K
             refine norm_ (a' := _) ap_ ?_
             exact norm_ (by simp only [putAll, Act.put, List.setIfInBounds_toArray, List.set_cons_zero, List.set_cons_succ]) (hCont (gb295) _ ⟨hHeld, (kr_ HO_5.out), (bk_ BK286.out), (bk_ BK287.out), (bk_ BK295.out), GW295.out, GE295.out, NB286_295.out, NB295_286.out, NB287_295.out, NB295_287.out, (bl3_ HB.out GE286.out GE287.out GE295.out)⟩)
            ·skip
             refine box_step ?hg (N := 8) ?hd (cs := #[.int .i64 0, .int .i64 0]) (t := 36) ?hr ?_; (case hd => rfl); (case hg => rfl); (case hr => first | (go_simp; done) | (go_simp; rfl))
             intro gb295 hg w20 hbox hb
             have HS4_ := (hb.cell (World.block_lt_of_cell? _ _ (hHeld.2.2.2.2.1))).trans (hHeld.2.2.2.2.1)
             have HS5_ := (hb.cell (World.block_lt_of_cell? _ _ (hHeld.2.2.2.2.2))).trans (hHeld.2.2.2.2.2)
             have n0_ := Aside0.mk (Kd.R_below (Kd.R_elderB (kr_ HO_5.out) gb295 (Nat.le_of_eq hg.symm)) hb)
             have n1_ := Aside0.mk (bb_ BK286.out hb)
             have n2_ := Aside0.mk (bb_ BK287.out hb)
             have n3_ := Aside0.mk (below_step (bl2_ HB.out GE286.out GE287.out) hb)
             have n4_ := Aside0.mk (hbox)
             have n5_ := Aside0.mk ((bs2_ hg HB.out GE286.out GE287.out : w.heap.size ≤ gb295))
             have n6_ := Aside0.mk ((bs2_ hg HB.out GE286.out GE287.out : w.heap.size ≤ gb295))
             have n7_ := Aside0.mk ((nl_ hg BK286.out : gb286 ≠ gb295))
             have n8_ := Aside0.mk ((ng_ hg BK286.out : gb295 ≠ gb286))
             have n9_ := Aside0.mk ((nl_ hg BK287.out : gb287 ≠ gb295))
             have n10_ := Aside0.mk ((ng_ hg BK287.out : gb295 ≠ gb287))
             clear HO_5
             clear BK286
             clear BK287
             clear HB
             have HO_5 := n0_
             have BK286 := n1_
             have BK287 := n2_
             have HB := n3_
             have BK295 := n4_
             have GW295 := n5_
             have GE295 := n6_
             have NB286_295 := n7_
             have NB295_286 := n8_
             have NB287_295 := n9_
             have NB295_287 := n10_
             clear n0_ n1_ n2_ n3_ n4_ n5_ n6_ n7_ n8_ n9_ n10_
             clear hb hbox hg
             refine hK.out _ _ ⟨(blk_cell BK286.out 0).trans rfl, (blk_cell BK286.out 1).trans rfl, (blk_cell BK286.out 2).trans rfl, (blk_cell BK286.out 3).trans rfl, HS4_, HS5_⟩ (fun hHeld => ?_)
             clear hK K
             refine norm_ (a' := _) ap_ ?_
             refine one_ (i := 6) (N := some 29) #[Tt, Tt, Tt, Tt, Tt, Tt, Tt, Ff, Ff, Ff, Tt, Ff, Ff] rfl rfl (one_of HT_.out (by kernel_rfl)) (by decide) (fun K hK => ?_)
             refine goes_ Try.func76 (by kernel_rfl) rfl #[.agg #[.int .i64 a0_0, .int .i64 a0_1, .slice A0_2 l0_2.length c0_2, .slice A0_3 l0_3.length c0_3], .agg #[.int .i64 ((rd_T36 x5_2 x6_1).f0), .int .i64 ((rd_T36 x5_2 x6_1).f1)], .int .i64 x7_2] (by rfl) rfl rfl ob_ ?_
             with_reducible refine (spec_liNext.calls k2 a0_0 a0_1 _ _ l0_2 _ _ l0_3 ((rd_T36 x5_2 x6_1).f0) ((rd_T36 x5_2 x6_1).f1) x7_2 t292 t293 true _ ?side1 ?side2 ?side3 ?side4 A14.out).mono ?_
             (case side1 => exact kc_ (Kd.C_below HR0_2.out HB.out))
             (case side2 => exact HC0_2.out)
             (case side3 => exact kc_ (Kd.C_below HR0_3.out HB.out))
             (case side4 => exact HC0_3.out)
             rintro e w21 ⟨rfl, hb⟩
             have HS4_ := (hb.cell (World.block_lt_of_cell? _ _ (hHeld.2.2.2.2.1))).trans (hHeld.2.2.2.2.1)
             have HS5_ := (hb.cell (World.block_lt_of_cell? _ _ (hHeld.2.2.2.2.2))).trans (hHeld.2.2.2.2.2)
             refine ⟨_, rfl, ?_⟩
             have n0_ := Aside0.mk (Kd.R_below (kr_ HO_5.out) hb)
             have n1_ := Aside0.mk (bb_ BK286.out hb)
             have n2_ := Aside0.mk (bb_ BK287.out hb)
             have n3_ := Aside0.mk (bb_ BK295.out hb)
             have n4_ := Aside0.mk (below_step (bl3_ HB.out GE286.out GE287.out GE295.out) hb)
             clear HO_5
             clear BK286
             clear BK287
             clear BK295
             clear HB
             have HO_5 := n0_
             have BK286 := n1_
             have BK287 := n2_
             have BK295 := n3_
             have HB := n4_
             clear n0_ n1_ n2_ n3_ n4_
             (try clear hb)
             (try clear hb2)
             (try clear hk)
             (try clear hi)
             refine hK.out _ _ ⟨(blk_cell BK286.out 0).trans rfl, (blk_cell BK286.out 1).trans rfl, (blk_cell BK286.out 2).trans rfl, (blk_cell BK286.out 3).trans rfl, HS4_, HS5_⟩ (fun hHeld => ?_)
             clear hK K
             refine norm_ (a' := _) ap_ ?_
             refine pZ (i := 7) (N := some 22) #[Tt, Tt, Tt, Tt, Tt, Tt, Tt, Tt, Ff, Ff, Tt, Ff, Ff] ?_
             refine pZ (i := 8) (N := some 30) #[Tt, Tt, Tt, Tt, Tt, Tt, Tt, Tt, Tt, Ff, Tt, Ff, Ff] ?_
             refine pZ (i := 9) (N := some 31) #[Tt, Tt, Tt, Tt, Tt, Tt, Tt, Tt, Tt, Tt, Tt, Ff, Ff] ?_
             exact norm_ (by simp only [putAll, Act.put, List.setIfInBounds_toArray, List.set_cons_zero, List.set_cons_succ]) (hCont (gb295) _ ⟨hHeld, (kr_ HO_5.out), (bk_ BK286.out), (bk_ BK287.out), (bk_ BK295.out), GW295.out, GE295.out, NB286_295.out, NB295_286.out, NB287_295.out, NB295_287.out, (bl3_ HB.out GE286.out GE287.out GE295.out)⟩)
           rintro gb295 w22 ⟨hS_, h0_, h1_, h2_, h3_, h4_, h5_, h6_, h7_, h8_, h9_, h10_⟩
           have n0_ : Aside0 (Kd.R k36 36 w22 w.heap.size (fun k_ => k_ ≠ gb287 ∧ k_ ≠ gb295) (.slice (some ad291) x5_2.length co19) x5_2) := ⟨h0_⟩
           have n1_ : Aside0 (w22.heap[gb286]? = some (.cells #[.int .i64 a0_0, .int .i64 a0_1, .slice A0_2 l0_2.length c0_2, .slice A0_3 l0_3.length c0_3] 28 (0, 0))) := ⟨h1_⟩
           have n2_ : Aside0 (w22.heap[gb287]? = some (.cells #[.int .i64 a1_0, .int .i64 a1_1] 36 (0, 0))) := ⟨h2_⟩
           have n3_ : Aside0 (w22.heap[gb295]? = some (.cells #[.int .i64 0, .int .i64 0] 36 (0, 0))) := ⟨h3_⟩
           have n4_ : Aside0 (w.heap.size ≤ gb295) := ⟨h4_⟩
           have n5_ : Aside0 (w.heap.size ≤ gb295) := ⟨h5_⟩
           have n6_ : Aside0 (gb286 ≠ gb295) := ⟨h6_⟩
           have n7_ : Aside0 (gb295 ≠ gb286) := ⟨h7_⟩
           have n8_ : Aside0 (gb287 ≠ gb295) := ⟨h8_⟩
           have n9_ : Aside0 (gb295 ≠ gb287) := ⟨h9_⟩
           have n10_ : Aside0 (Below w.heap.size w w22) := ⟨h10_⟩
           clear HO_5
           clear BK286
           clear BK287
           clear HB
           clear h0_ h1_ h2_ h3_ h4_ h5_ h6_ h7_ h8_ h9_ h10_
           have HO_5 := n0_
           have BK286 := n1_
           have BK287 := n2_
           have BK295 := n3_
           have GW295 := n4_
           have GE295 := n5_
           have NB286_295 := n6_
           have NB295_286 := n7_
           have NB287_295 := n8_
           have NB295_287 := n9_
           have HB := n10_
           clear n0_ n1_ n2_ n3_ n4_ n5_ n6_ n7_ n8_ n9_ n10_
           have hHeld : w22.cell? ⟨gb286, 0, none⟩ = some (.int .i64 a0_0) ∧ w22.cell? ⟨gb286, 1, none⟩ = some (.int .i64 a0_1) ∧ w22.cell? ⟨gb286, 2, none⟩ = some (.slice A0_2 l0_2.length c0_2) ∧ w22.cell? ⟨gb286, 3, none⟩ = some (.slice A0_3 l0_3.length c0_3) ∧ w22.cell? (ad291.add ((x6_1).toNat * 2)) = some (.int .i64 ((rd_T36 x5_2 x6_1).f0)) ∧ w22.cell? ⟨(ad291.add ((x6_1).toNat * 2)).block, (ad291.add ((x6_1).toNat * 2)).off + 1, none⟩ = some (.int .i64 ((rd_T36 x5_2 x6_1).f1)) := hS_
           refine norm_ (a' := ?_) ?_ ?_
           rotate_left
           ·simp only [putAll, Act.put, List.setIfInBounds_toArray, List.set_cons_zero, List.set_cons_succ]
            rfl
           refine one_ (i := 11) (N := none) #[Tt, Tt, Tt, Tt, Tt, Tt, Tt, Tt, Tt, Tt, Tt, Tt, Ff] rfl rfl (one_of HT_.out (by kernel_rfl)) (by decide) (fun K hK => ?_)
           have hs23 : w22.cell? ⟨gb295, 0, none⟩ = some (.int .i64 0) := (blk_cell BK295.out 0).trans rfl
           have hfs23 := blk_frozen BK295.out 0
           have hns23_0 := NB286_295.out
           have hns23_1 := NB287_295.out
           have hms23_0 := NB295_286.out
           have hms23_1 := NB295_287.out
           have hs24 : w22.cell? ⟨gb295, 1, none⟩ = some (.int .i64 0) := (blk_cell BK295.out 1).trans rfl
           have hfs24 := blk_frozen BK295.out 1
           have hns24_0 := NB286_295.out
           have hns24_1 := NB287_295.out
           have hms24_0 := NB295_286.out
           have hms24_1 := NB295_287.out
           refine skip_ (w1 := ?_) (by rfl) rfl ?_ ?_
           rotate_left
           ·go_simp
            rfl
           refine hK.out _ _ ⟨((cell_far (p := ⟨gb295, _, none⟩) NB286_295.out _).trans (((cell_far (p := ⟨gb295, _, none⟩) NB286_295.out _).trans (hHeld.1)))), ((cell_far (p := ⟨gb295, _, none⟩) NB286_295.out _).trans (((cell_far (p := ⟨gb295, _, none⟩) NB286_295.out _).trans (hHeld.2.1)))), ((cell_far (p := ⟨gb295, _, none⟩) NB286_295.out _).trans (((cell_far (p := ⟨gb295, _, none⟩) NB286_295.out _).trans (hHeld.2.2.1)))), ((cell_far (p := ⟨gb295, _, none⟩) NB286_295.out _).trans (((cell_far (p := ⟨gb295, _, none⟩) NB286_295.out _).trans (hHeld.2.2.2.1)))), ((cell_far (p := ⟨gb295, _, none⟩) (by first | exact Kd.own_blk (Kd.R_away HO_5.out (fun _ hk => hk.2)) | (rw [add_block]; exact Kd.own_blk (Kd.R_away HO_5.out (fun _ hk => hk.2))) | (show (Addr.add _ _).block ≠ _; rw [add_block]; exact Kd.own_blk (Kd.R_away HO_5.out (fun _ hk => hk.2))) | (dsimp only; exact Kd.own_blk (Kd.R_away HO_5.out (fun _ hk => hk.2)))) _).trans (((cell_far (p := ⟨gb295, _, none⟩) (by first | exact Kd.own_blk (Kd.R_away HO_5.out (fun _ hk => hk.2)) | (rw [add_block]; exact Kd.own_blk (Kd.R_away HO_5.out (fun _ hk => hk.2))) | (show (Addr.add _ _).block ≠ _; rw [add_block]; exact Kd.own_blk (Kd.R_away HO_5.out (fun _ hk => hk.2))) | (dsimp only; exact Kd.own_blk (Kd.R_away HO_5.out (fun _ hk => hk.2)))) _).trans (hHeld.2.2.2.2.1)))), ((cell_far (p := ⟨gb295, _, none⟩) (by first | exact Kd.own_blk (Kd.R_away HO_5.out (fun _ hk => hk.2)) | (rw [add_block]; exact Kd.own_blk (Kd.R_away HO_5.out (fun _ hk => hk.2))) | (show (Addr.add _ _).block ≠ _; rw [add_block]; exact Kd.own_blk (Kd.R_away HO_5.out (fun _ hk => hk.2))) | (dsimp only; exact Kd.own_blk (Kd.R_away HO_5.out (fun _ hk => hk.2)))) _).trans (((cell_far (p := ⟨gb295, _, none⟩) (by first | exact Kd.own_blk (Kd.R_away HO_5.out (fun _ hk => hk.2)) | (rw [add_block]; exact Kd.own_blk (Kd.R_away HO_5.out (fun _ hk => hk.2))) | (show (Addr.add _ _).block ≠ _; rw [add_block]; exact Kd.own_blk (Kd.R_away HO_5.out (fun _ hk => hk.2))) | (dsimp only; exact Kd.own_blk (Kd.R_away HO_5.out (fun _ hk => hk.2)))) _).trans (hHeld.2.2.2.2.2))))⟩ (fun hHeld => ?_)
           clear hK K
           refine pZ (i := 12) (N := some 9) #[Tt, Tt, Tt, Tt, Tt, Tt, Tt, Tt, Tt, Tt, Tt, Tt, Tt] ?_
           refine done_ (done_of HT_.out (by kernel_rfl)) ?_
           have hnb25 := NB295_286.out
           have hnc25 := NB286_295.out
           have hnb26 := NB295_287.out
           have hnc26 := NB287_295.out
           have hcz27_0 : w22.cell? ⟨gb295, 0, none⟩ = some (.int .i64 0) := (blk_cell BK295.out 0).trans rfl
           have hcz27_1 : w22.cell? ⟨gb295, 1, none⟩ = some (.int .i64 0) := (blk_cell BK295.out 1).trans rfl
           have hfz27_0 := blk_frozen BK295.out 0
           have hfz27_1 := blk_frozen BK295.out 1
           try go_wp2_with (first | (go_at_call 77; (with_reducible refine (spec_liHas.calls k2 _ _ x5_2 t292 t293 true _ ?side1 ?side2 A16.out).mono ?_); (case side1 => refine (Kd.R_reads' (e := 36) (base := w.heap.size) (ok := fun k_ => (k_ ≠ gb287 ∧ k_ ≠ gb295)) (n := x5_2.length) (c := co19) ?_).2.2; exact (by (with_reducible repeat (first | apply Kd.R_alloc | apply Kd.R_drewN | apply Kd.R_drew)); exact (Kd.R_mono (Kd.R_far (p := ⟨gb295, 1, none⟩) (Kd.R_far (p := ⟨gb295, 0, none⟩) (Kd.R_mono HO_5.out (fun k_ hk => (⟨hk, hk.2⟩ : _ ∧ k_ ≠ gb295))) (fun _ hk => hk.2) (.int .i64 t292)) (fun _ hk => hk.2) (.int .i64 t293)) (fun _ h_ => h_.1)))); (case side2 => exact (Kd.R_reads' HO_5.out).2.1); rintro e w28 ⟨rfl, hb⟩; have n0_ := Aside0.mk (Kd.R_below (by (with_reducible repeat (first | apply Kd.R_alloc | apply Kd.R_drewN | apply Kd.R_drew)); exact (Kd.R_mono (Kd.R_far (p := ⟨gb295, 1, none⟩) (Kd.R_far (p := ⟨gb295, 0, none⟩) (Kd.R_mono HO_5.out (fun k_ hk => (⟨hk, hk.2⟩ : _ ∧ k_ ≠ gb295))) (fun _ hk => hk.2) (.int .i64 t292)) (fun _ hk => hk.2) (.int .i64 t293)) (fun _ h_ => h_.1))) hb); have n1_ := Aside0.mk (blk_below (g := gb286) (o := .cells #[.int .i64 a0_0, .int .i64 a0_1, .slice A0_2 l0_2.length c0_2, .slice A0_3 l0_3.length c0_3] 28 (0, 0)) (bf2_ NB286_295.out NB286_295.out BK286.out) hb); have n2_ := Aside0.mk (blk_below (g := gb287) (o := .cells #[.int .i64 a1_0, .int .i64 a1_1] 36 (0, 0)) (bf2_ NB287_295.out NB287_295.out BK287.out) hb); have n3_ := Aside0.mk (blk_below (g := gb295) (o := .cells #[.int .i64 t292, .int .i64 t293] 36 (0, 0)) (by (with_reducible repeat (first | refine blk_drewN ?_ _ | refine blk_drew ?_ | refine blk_alloc ?_ _)); refine blk_put (cs := #[.int .i64 t292, .int .i64 0]) ?_ 1 _ rfl; (with_reducible repeat (first | refine blk_drewN ?_ _ | refine blk_drew ?_ | refine blk_alloc ?_ _)); refine blk_put (cs := #[.int .i64 0, .int .i64 0]) ?_ 0 _ rfl; (with_reducible repeat (first | refine blk_drewN ?_ _ | refine blk_drew ?_ | refine blk_alloc ?_ _)); exact BK295.out) hb); have n4_ := Aside0.mk (below_step (bl3_ HB.out GE286.out GE287.out GE295.out) hb); clear HO_5; clear BK286; clear BK287; clear BK295; clear HB; have HO_5 := n0_; have BK286 := n1_; have BK287 := n2_; have BK295 := n3_; have HB := n4_; clear n0_ n1_ n2_ n3_ n4_; (try clear hb); (try clear hb2); (try clear hk); (try clear hi)))
           go_roundg k2
           case measure => have := HK1.out; have := HK2.out; omega
           case rel => exact ⟨(x5_2), (wrap64 (x7_2 + 1)), rs_, H', ⟨by have := HK1.out; have := HK2.out; omega⟩, ⟨by (with_reducible repeat (first | apply Kd.R_alloc | apply Kd.R_drewN | apply Kd.R_drew)); exact Kd.R_mono HO_5.out (fun _ hk => hk.1)⟩, ⟨bk_ BK286.out⟩, ⟨bk_ BK287.out⟩, ⟨bl3_ HB.out GE286.out GE287.out GE295.out⟩⟩
          ·replace c17 := Bool.eq_false_iff.mpr c17
           subst c17
           have H1 : (if x5_2.length < 8796093022208 then (spec_liReach.l1 k2 (x5_2 ++ [(⟨t292, t293⟩ : S36)]) x6_1 (wrap64 (x7_2 + 1)) a0_0 a0_1 l0_2 l0_3) else (none)) = some r := by rw [if_neg (show ¬ (false = true) by decide)] at H; exact H
           clear H
           have H := H1
           clear H1
           by_cases c29 : x5_2.length < 8796093022208
           ·rw [if_pos c29] at H
            have LMc29 := Aside0.mk c29
            clear c29
            obtain ⟨y297, hy297⟩ : ∃ y_ : List (S36), y_ = (x5_2 ++ [(⟨t292, t293⟩ : S36)]) := ⟨_, rfl⟩
            replace H : (spec_liReach.l1 k2 y297 x6_1 (wrap64 (x7_2 + 1)) a0_0 a0_1 l0_2 l0_3) = some r := by first | (rw [hy297]; with_reducible exact H) | (have H2_ := (Option.bind_some _ _).symm.trans H; rw [hy297]; with_reducible exact H2_) | (have H2_ := (Option.bind_some _ _).symm.trans H; with_reducible exact H2_) | with_reducible exact H | (rw [hy297]; exact H) | exact H
            have Ny297 := Aside0.mk hy297
            clear hy297
            have H' := Aside0.mk H
            clear H
            try go_wp2
            have n0_ := Aside0.mk (Kd.R_drew HO_5.out)
            have n1_ := Aside0.mk (blk_drew BK286.out)
            have n2_ := Aside0.mk (blk_drew BK287.out)
            have n3_ := Aside0.mk (below_drew1 HB.out)
            clear HO_5
            clear BK286
            clear BK287
            clear HB
            have HO_5 := n0_
            have BK286 := n1_
            have BK287 := n2_
            have HB := n3_
            clear n0_ n1_ n2_ n3_
            obtain ⟨Ao31, co31, eo31⟩ := Kd.R_slice HO_5.out
            (first | subst eo31 | (injection eo31 with f1_ f2_ f3_; have f4_ := f1_.symm; have f5_ := f3_.symm; clear f1_ f2_ f3_; subst f4_; subst f5_))
            have p291 : 0 ≤ (x6_1 : Int) := of_decide_eq_true as_
            have q291 : x6_1 < (x5_2.length : Int) := of_decide_eq_true as_
            obtain ⟨ad291, e291, hx291_0, hx291_1⟩ := at_T36 (Kd.R_reads' HO_5.out).2.2 x6_1 p291 q291
            cases e291
            replace p291 := eq_true p291
            replace q291 := eq_true q291
            refine start_ (n := 13) (S := fun w' => w'.cell? ⟨gb286, 0, none⟩ = some (.int .i64 a0_0) ∧ w'.cell? ⟨gb286, 1, none⟩ = some (.int .i64 a0_1) ∧ w'.cell? ⟨gb286, 2, none⟩ = some (.slice A0_2 l0_2.length c0_2) ∧ w'.cell? ⟨gb286, 3, none⟩ = some (.slice A0_3 l0_3.length c0_3) ∧ w'.cell? (ad291.add ((x6_1).toNat * 2)) = some (.int .i64 ((rd_T36 x5_2 x6_1).f0)) ∧ w'.cell? ⟨(ad291.add ((x6_1).toNat * 2)).block, (ad291.add ((x6_1).toNat * 2)).off + 1, none⟩ = some (.int .i64 ((rd_T36 x5_2 x6_1).f1))) (ds := []) #[Ff, Ff, Ff, Ff, Ff, Ff, Ff, Ff, Ff, Ff, Ff, Ff, Ff] (by kernel_rfl) rfl rfl ⟨(blk_cell BK286.out 0).trans rfl, (blk_cell BK286.out 1).trans rfl, (blk_cell BK286.out 2).trans rfl, (blk_cell BK286.out 3).trans rfl, hx291_0, hx291_1⟩ (fun hHeld => ?_); refine with_tabW spec_liReach.tab8 spec_liReach.bits8 (fun HT_ HW_ => ?_)
            generalize wr.drew = w30 at HO_5 BK286 BK287 HB hx291_0 hx291_1 hHeld ⊢
            refine pZ (i := 1) (N := some 24) #[Ff, Tt, Ff, Ff, Ff, Ff, Ff, Ff, Ff, Ff, Ff, Ff, Ff] ?_
            refine pZ (i := 2) (N := some 25) #[Ff, Tt, Tt, Ff, Ff, Ff, Ff, Ff, Ff, Ff, Ff, Ff, Ff] ?_
            refine pZ (i := 3) (N := some 26) #[Ff, Tt, Tt, Tt, Ff, Ff, Ff, Ff, Ff, Ff, Ff, Ff, Ff] ?_
            refine pZ (i := 5) (N := some 28) #[Ff, Tt, Tt, Tt, Ff, Tt, Ff, Ff, Ff, Ff, Ff, Ff, Ff] ?_
            refine tZ (i := 0) (N := some 23) #[Tt, Tt, Tt, Tt, Ff, Tt, Ff, Ff, Ff, Ff, Ff, Ff, Ff] ?_
            refine tZ (i := 4) (N := some 27) #[Tt, Tt, Tt, Tt, Tt, Tt, Ff, Ff, Ff, Ff, Ff, Ff, Ff] ?_
            refine join_ (σ := Nat) 2 #[Tt, Tt, Tt, Tt, Tt, Tt, Tt, Tt, Tt, Tt, Tt, Ff, Ff] (fun s_ => [(29, .tuple #[.agg #[.int .i64 t292, .int .i64 t293], .bool true]), (8, .pointer (some ⟨s_, 0, none⟩)), (22, .tuple #[.agg #[.int .i64 t292, .int .i64 t293], .bool true]), (30, .agg #[.int .i64 t292, .int .i64 t293]), (31, .bool true)]) (fun s_ w' => (w'.cell? ⟨gb286, 0, none⟩ = some (.int .i64 a0_0) ∧ w'.cell? ⟨gb286, 1, none⟩ = some (.int .i64 a0_1) ∧ w'.cell? ⟨gb286, 2, none⟩ = some (.slice A0_2 l0_2.length c0_2) ∧ w'.cell? ⟨gb286, 3, none⟩ = some (.slice A0_3 l0_3.length c0_3) ∧ w'.cell? (ad291.add ((x6_1).toNat * 2)) = some (.int .i64 ((rd_T36 x5_2 x6_1).f0)) ∧ w'.cell? ⟨(ad291.add ((x6_1).toNat * 2)).block, (ad291.add ((x6_1).toNat * 2)).off + 1, none⟩ = some (.int .i64 ((rd_T36 x5_2 x6_1).f1))) ∧ (Kd.R k36 36 w' w.heap.size (fun k_ => k_ ≠ gb287 ∧ k_ ≠ s_) (.slice (some ad291) x5_2.length co31) x5_2) ∧ (w'.heap[gb286]? = some (.cells #[.int .i64 a0_0, .int .i64 a0_1, .slice A0_2 l0_2.length c0_2, .slice A0_3 l0_3.length c0_3] 28 (0, 0))) ∧ (w'.heap[gb287]? = some (.cells #[.int .i64 a1_0, .int .i64 a1_1] 36 (0, 0))) ∧ (w'.heap[s_]? = some (.cells #[.int .i64 0, .int .i64 0] 36 (0, 0))) ∧ (w.heap.size ≤ s_) ∧ (w.heap.size ≤ s_) ∧ (gb286 ≠ s_) ∧ (s_ ≠ gb286) ∧ (gb287 ≠ s_) ∧ (s_ ≠ gb287) ∧ (Below w.heap.size w w')) ?_ ?_
            rotate_left
            ·intro hCont
             refine two_ (i := 6) (j := 10) (Ni := some 29) (Nj := some 8) #[Tt, Tt, Tt, Tt, Tt, Tt, Tt, Ff, Ff, Ff, Ff, Ff, Ff] #[Tt, Tt, Tt, Tt, Tt, Tt, Ff, Ff, Ff, Ff, Tt, Ff, Ff] rfl rfl rfl rfl (two_of HT_.out (by kernel_rfl)) (by decide) (by decide) (fun K hK => ?_) (fun K hK => ?_)
             ·skip
              refine goes_ Try.func76 (by kernel_rfl) rfl #[.agg #[.int .i64 a0_0, .int .i64 a0_1, .slice A0_2 l0_2.length c0_2, .slice A0_3 l0_3.length c0_3], .agg #[.int .i64 ((rd_T36 x5_2 x6_1).f0), .int .i64 ((rd_T36 x5_2 x6_1).f1)], .int .i64 x7_2] (by rfl) rfl rfl ob_ ?_
              with_reducible refine (spec_liNext.calls k2 a0_0 a0_1 _ _ l0_2 _ _ l0_3 ((rd_T36 x5_2 x6_1).f0) ((rd_T36 x5_2 x6_1).f1) x7_2 t292 t293 true _ ?side1 ?side2 ?side3 ?side4 A14.out).mono ?_
              (case side1 => exact kc_ (Kd.C_below HR0_2.out HB.out))
              (case side2 => exact HC0_2.out)
              (case side3 => exact kc_ (Kd.C_below HR0_3.out HB.out))
              (case side4 => exact HC0_3.out)
              rintro e w32 ⟨rfl, hb⟩
              have HS4_ := (hb.cell (World.block_lt_of_cell? _ _ (hHeld.2.2.2.2.1))).trans (hHeld.2.2.2.2.1)
              have HS5_ := (hb.cell (World.block_lt_of_cell? _ _ (hHeld.2.2.2.2.2))).trans (hHeld.2.2.2.2.2)
              refine ⟨_, rfl, ?_⟩
              have n0_ := Aside0.mk (Kd.R_below (kr_ HO_5.out) hb)
              have n1_ := Aside0.mk (bb_ BK286.out hb)
              have n2_ := Aside0.mk (bb_ BK287.out hb)
              have n3_ := Aside0.mk (below_step (bl2_ HB.out GE286.out GE287.out) hb)
              clear HO_5
              clear BK286
              clear BK287
              clear HB
              have HO_5 := n0_
              have BK286 := n1_
              have BK287 := n2_
              have HB := n3_
              clear n0_ n1_ n2_ n3_
              (try clear hb)
              (try clear hb2)
              (try clear hk)
              (try clear hi)
              refine hK.out _ _ ⟨(blk_cell BK286.out 0).trans rfl, (blk_cell BK286.out 1).trans rfl, (blk_cell BK286.out 2).trans rfl, (blk_cell BK286.out 3).trans rfl, HS4_, HS5_⟩ (fun hHeld => ?_)
              clear hK K
              refine norm_ (a' := _) ap_ ?_
              refine pZ (i := 7) (N := some 22) #[Tt, Tt, Tt, Tt, Tt, Tt, Tt, Tt, Ff, Ff, Ff, Ff, Ff] ?_
              refine pZ (i := 8) (N := some 30) #[Tt, Tt, Tt, Tt, Tt, Tt, Tt, Tt, Tt, Ff, Ff, Ff, Ff] ?_
              refine pZ (i := 9) (N := some 31) #[Tt, Tt, Tt, Tt, Tt, Tt, Tt, Tt, Tt, Tt, Ff, Ff, Ff] ?_
              refine one_ (i := 10) (N := some 8) #[Tt, Tt, Tt, Tt, Tt, Tt, Tt, Tt, Tt, Tt, Tt, Ff, Ff] rfl rfl (one_of HT_.out (by kernel_rfl)) (by decide) (fun K hK => ?_)
              refine box_step ?hg (N := 8) ?hd (cs := #[.int .i64 0, .int .i64 0]) (t := 36) ?hr ?_; (case hd => rfl); (case hg => rfl); (case hr => first | (go_simp; done) | (go_simp; rfl))
              intro gb295 hg w33 hbox hb
              have HS4_ := (hb.cell (World.block_lt_of_cell? _ _ (hHeld.2.2.2.2.1))).trans (hHeld.2.2.2.2.1)
              have HS5_ := (hb.cell (World.block_lt_of_cell? _ _ (hHeld.2.2.2.2.2))).trans (hHeld.2.2.2.2.2)
              have n0_ := Aside0.mk (Kd.R_below (Kd.R_elderB (kr_ HO_5.out) gb295 (Nat.le_of_eq hg.symm)) hb)
              have n1_ := Aside0.mk (bb_ BK286.out hb)
              have n2_ := Aside0.mk (bb_ BK287.out hb)
              have n3_ := Aside0.mk (below_step (bl2_ HB.out GE286.out GE287.out) hb)
              have n4_ := Aside0.mk (hbox)
              have n5_ := Aside0.mk ((bs2_ hg HB.out GE286.out GE287.out : w.heap.size ≤ gb295))
              have n6_ := Aside0.mk ((bs2_ hg HB.out GE286.out GE287.out : w.heap.size ≤ gb295))
              have n7_ := Aside0.mk ((nl_ hg BK286.out : gb286 ≠ gb295))
              have n8_ := Aside0.mk ((ng_ hg BK286.out : gb295 ≠ gb286))
              have n9_ := Aside0.mk ((nl_ hg BK287.out : gb287 ≠ gb295))
              have n10_ := Aside0.mk ((ng_ hg BK287.out : gb295 ≠ gb287))
              clear HO_5
              clear BK286
              clear BK287
              clear HB
              have HO_5 := n0_
              have BK286 := n1_
              have BK287 := n2_
              have HB := n3_
              have BK295 := n4_
              have GW295 := n5_
              have GE295 := n6_
              have NB286_295 := n7_
              have NB295_286 := n8_
              have NB287_295 := n9_
              have NB295_287 := n10_
              clear n0_ n1_ n2_ n3_ n4_ n5_ n6_ n7_ n8_ n9_ n10_
              clear hb hbox hg
              refine hK.out _ _ ⟨(blk_cell BK286.out 0).trans rfl, (blk_cell BK286.out 1).trans rfl, (blk_cell BK286.out 2).trans rfl, (blk_cell BK286.out 3).trans rfl, HS4_, HS5_⟩ (fun hHeld => ?_)
              clear hK K
              refine norm_ (a' := _) ap_ ?_
              exact norm_ (by simp only [putAll, Act.put, List.setIfInBounds_toArray, List.set_cons_zero, List.set_cons_succ]) (hCont (gb295) _ ⟨hHeld, (kr_ HO_5.out), (bk_ BK286.out), (bk_ BK287.out), (bk_ BK295.out), GW295.out, GE295.out, NB286_295.out, NB295_286.out, NB287_295.out, NB295_287.out, (bl3_ HB.out GE286.out GE287.out GE295.out)⟩)
             ·skip
              refine box_step ?hg (N := 8) ?hd (cs := #[.int .i64 0, .int .i64 0]) (t := 36) ?hr ?_; (case hd => rfl); (case hg => rfl); (case hr => first | (go_simp; done) | (go_simp; rfl))
              intro gb295 hg w32 hbox hb
              have HS4_ := (hb.cell (World.block_lt_of_cell? _ _ (hHeld.2.2.2.2.1))).trans (hHeld.2.2.2.2.1)
              have HS5_ := (hb.cell (World.block_lt_of_cell? _ _ (hHeld.2.2.2.2.2))).trans (hHeld.2.2.2.2.2)
              have n0_ := Aside0.mk (Kd.R_below (Kd.R_elderB (kr_ HO_5.out) gb295 (Nat.le_of_eq hg.symm)) hb)
              have n1_ := Aside0.mk (bb_ BK286.out hb)
              have n2_ := Aside0.mk (bb_ BK287.out hb)
              have n3_ := Aside0.mk (below_step (bl2_ HB.out GE286.out GE287.out) hb)
              have n4_ := Aside0.mk (hbox)
              have n5_ := Aside0.mk ((bs2_ hg HB.out GE286.out GE287.out : w.heap.size ≤ gb295))
              have n6_ := Aside0.mk ((bs2_ hg HB.out GE286.out GE287.out : w.heap.size ≤ gb295))
              have n7_ := Aside0.mk ((nl_ hg BK286.out : gb286 ≠ gb295))
              have n8_ := Aside0.mk ((ng_ hg BK286.out : gb295 ≠ gb286))
              have n9_ := Aside0.mk ((nl_ hg BK287.out : gb287 ≠ gb295))
              have n10_ := Aside0.mk ((ng_ hg BK287.out : gb295 ≠ gb287))
              clear HO_5
              clear BK286
              clear BK287
              clear HB
              have HO_5 := n0_
              have BK286 := n1_
              have BK287 := n2_
              have HB := n3_
              have BK295 := n4_
              have GW295 := n5_
              have GE295 := n6_
              have NB286_295 := n7_
              have NB295_286 := n8_
              have NB287_295 := n9_
              have NB295_287 := n10_
              clear n0_ n1_ n2_ n3_ n4_ n5_ n6_ n7_ n8_ n9_ n10_
              clear hb hbox hg
              refine hK.out _ _ ⟨(blk_cell BK286.out 0).trans rfl, (blk_cell BK286.out 1).trans rfl, (blk_cell BK286.out 2).trans rfl, (blk_cell BK286.out 3).trans rfl, HS4_, HS5_⟩ (fun hHeld => ?_)
              clear hK K
              refine norm_ (a' := _) ap_ ?_
              refine one_ (i := 6) (N := some 29) #[Tt, Tt, Tt, Tt, Tt, Tt, Tt, Ff, Ff, Ff, Tt, Ff, Ff] rfl rfl (one_of HT_.out (by kernel_rfl)) (by decide) (fun K hK => ?_)
              refine goes_ Try.func76 (by kernel_rfl) rfl #[.agg #[.int .i64 a0_0, .int .i64 a0_1, .slice A0_2 l0_2.length c0_2, .slice A0_3 l0_3.length c0_3], .agg #[.int .i64 ((rd_T36 x5_2 x6_1).f0), .int .i64 ((rd_T36 x5_2 x6_1).f1)], .int .i64 x7_2] (by rfl) rfl rfl ob_ ?_
              with_reducible refine (spec_liNext.calls k2 a0_0 a0_1 _ _ l0_2 _ _ l0_3 ((rd_T36 x5_2 x6_1).f0) ((rd_T36 x5_2 x6_1).f1) x7_2 t292 t293 true _ ?side1 ?side2 ?side3 ?side4 A14.out).mono ?_
              (case side1 => exact kc_ (Kd.C_below HR0_2.out HB.out))
              (case side2 => exact HC0_2.out)
              (case side3 => exact kc_ (Kd.C_below HR0_3.out HB.out))
              (case side4 => exact HC0_3.out)
              rintro e w33 ⟨rfl, hb⟩
              have HS4_ := (hb.cell (World.block_lt_of_cell? _ _ (hHeld.2.2.2.2.1))).trans (hHeld.2.2.2.2.1)
              have HS5_ := (hb.cell (World.block_lt_of_cell? _ _ (hHeld.2.2.2.2.2))).trans (hHeld.2.2.2.2.2)
              refine ⟨_, rfl, ?_⟩
              have n0_ := Aside0.mk (Kd.R_below (kr_ HO_5.out) hb)
              have n1_ := Aside0.mk (bb_ BK286.out hb)
              have n2_ := Aside0.mk (bb_ BK287.out hb)
              have n3_ := Aside0.mk (bb_ BK295.out hb)
              have n4_ := Aside0.mk (below_step (bl3_ HB.out GE286.out GE287.out GE295.out) hb)
              clear HO_5
              clear BK286
              clear BK287
              clear BK295
              clear HB
              have HO_5 := n0_
              have BK286 := n1_
              have BK287 := n2_
              have BK295 := n3_
              have HB := n4_
              clear n0_ n1_ n2_ n3_ n4_
              (try clear hb)
              (try clear hb2)
              (try clear hk)
              (try clear hi)
              refine hK.out _ _ ⟨(blk_cell BK286.out 0).trans rfl, (blk_cell BK286.out 1).trans rfl, (blk_cell BK286.out 2).trans rfl, (blk_cell BK286.out 3).trans rfl, HS4_, HS5_⟩ (fun hHeld => ?_)
              clear hK K
              refine norm_ (a' := _) ap_ ?_
              refine pZ (i := 7) (N := some 22) #[Tt, Tt, Tt, Tt, Tt, Tt, Tt, Tt, Ff, Ff, Tt, Ff, Ff] ?_
              refine pZ (i := 8) (N := some 30) #[Tt, Tt, Tt, Tt, Tt, Tt, Tt, Tt, Tt, Ff, Tt, Ff, Ff] ?_
              refine pZ (i := 9) (N := some 31) #[Tt, Tt, Tt, Tt, Tt, Tt, Tt, Tt, Tt, Tt, Tt, Ff, Ff] ?_
              exact norm_ (by simp only [putAll, Act.put, List.setIfInBounds_toArray, List.set_cons_zero, List.set_cons_succ]) (hCont (gb295) _ ⟨hHeld, (kr_ HO_5.out), (bk_ BK286.out), (bk_ BK287.out), (bk_ BK295.out), GW295.out, GE295.out, NB286_295.out, NB295_286.out, NB287_295.out, NB295_287.out, (bl3_ HB.out GE286.out GE287.out GE295.out)⟩)
            rintro gb295 w34 ⟨hS_, h0_, h1_, h2_, h3_, h4_, h5_, h6_, h7_, h8_, h9_, h10_⟩
            have n0_ : Aside0 (Kd.R k36 36 w34 w.heap.size (fun k_ => k_ ≠ gb287 ∧ k_ ≠ gb295) (.slice (some ad291) x5_2.length co31) x5_2) := ⟨h0_⟩
            have n1_ : Aside0 (w34.heap[gb286]? = some (.cells #[.int .i64 a0_0, .int .i64 a0_1, .slice A0_2 l0_2.length c0_2, .slice A0_3 l0_3.length c0_3] 28 (0, 0))) := ⟨h1_⟩
            have n2_ : Aside0 (w34.heap[gb287]? = some (.cells #[.int .i64 a1_0, .int .i64 a1_1] 36 (0, 0))) := ⟨h2_⟩
            have n3_ : Aside0 (w34.heap[gb295]? = some (.cells #[.int .i64 0, .int .i64 0] 36 (0, 0))) := ⟨h3_⟩
            have n4_ : Aside0 (w.heap.size ≤ gb295) := ⟨h4_⟩
            have n5_ : Aside0 (w.heap.size ≤ gb295) := ⟨h5_⟩
            have n6_ : Aside0 (gb286 ≠ gb295) := ⟨h6_⟩
            have n7_ : Aside0 (gb295 ≠ gb286) := ⟨h7_⟩
            have n8_ : Aside0 (gb287 ≠ gb295) := ⟨h8_⟩
            have n9_ : Aside0 (gb295 ≠ gb287) := ⟨h9_⟩
            have n10_ : Aside0 (Below w.heap.size w w34) := ⟨h10_⟩
            clear HO_5
            clear BK286
            clear BK287
            clear HB
            clear h0_ h1_ h2_ h3_ h4_ h5_ h6_ h7_ h8_ h9_ h10_
            have HO_5 := n0_
            have BK286 := n1_
            have BK287 := n2_
            have BK295 := n3_
            have GW295 := n4_
            have GE295 := n5_
            have NB286_295 := n6_
            have NB295_286 := n7_
            have NB287_295 := n8_
            have NB295_287 := n9_
            have HB := n10_
            clear n0_ n1_ n2_ n3_ n4_ n5_ n6_ n7_ n8_ n9_ n10_
            have hHeld : w34.cell? ⟨gb286, 0, none⟩ = some (.int .i64 a0_0) ∧ w34.cell? ⟨gb286, 1, none⟩ = some (.int .i64 a0_1) ∧ w34.cell? ⟨gb286, 2, none⟩ = some (.slice A0_2 l0_2.length c0_2) ∧ w34.cell? ⟨gb286, 3, none⟩ = some (.slice A0_3 l0_3.length c0_3) ∧ w34.cell? (ad291.add ((x6_1).toNat * 2)) = some (.int .i64 ((rd_T36 x5_2 x6_1).f0)) ∧ w34.cell? ⟨(ad291.add ((x6_1).toNat * 2)).block, (ad291.add ((x6_1).toNat * 2)).off + 1, none⟩ = some (.int .i64 ((rd_T36 x5_2 x6_1).f1)) := hS_
            refine norm_ (a' := ?_) ?_ ?_
            rotate_left
            ·simp only [putAll, Act.put, List.setIfInBounds_toArray, List.set_cons_zero, List.set_cons_succ]
             rfl
            refine one_ (i := 11) (N := none) #[Tt, Tt, Tt, Tt, Tt, Tt, Tt, Tt, Tt, Tt, Tt, Tt, Ff] rfl rfl (one_of HT_.out (by kernel_rfl)) (by decide) (fun K hK => ?_)
            have hs35 : w34.cell? ⟨gb295, 0, none⟩ = some (.int .i64 0) := (blk_cell BK295.out 0).trans rfl
            have hfs35 := blk_frozen BK295.out 0
            have hns35_0 := NB286_295.out
            have hns35_1 := NB287_295.out
            have hms35_0 := NB295_286.out
            have hms35_1 := NB295_287.out
            have hs36 : w34.cell? ⟨gb295, 1, none⟩ = some (.int .i64 0) := (blk_cell BK295.out 1).trans rfl
            have hfs36 := blk_frozen BK295.out 1
            have hns36_0 := NB286_295.out
            have hns36_1 := NB287_295.out
            have hms36_0 := NB295_286.out
            have hms36_1 := NB295_287.out
            refine skip_ (w1 := ?_) (by rfl) rfl ?_ ?_
            rotate_left
            ·go_simp
             rfl
            refine hK.out _ _ ⟨((cell_far (p := ⟨gb295, _, none⟩) NB286_295.out _).trans (((cell_far (p := ⟨gb295, _, none⟩) NB286_295.out _).trans (hHeld.1)))), ((cell_far (p := ⟨gb295, _, none⟩) NB286_295.out _).trans (((cell_far (p := ⟨gb295, _, none⟩) NB286_295.out _).trans (hHeld.2.1)))), ((cell_far (p := ⟨gb295, _, none⟩) NB286_295.out _).trans (((cell_far (p := ⟨gb295, _, none⟩) NB286_295.out _).trans (hHeld.2.2.1)))), ((cell_far (p := ⟨gb295, _, none⟩) NB286_295.out _).trans (((cell_far (p := ⟨gb295, _, none⟩) NB286_295.out _).trans (hHeld.2.2.2.1)))), ((cell_far (p := ⟨gb295, _, none⟩) (by first | exact Kd.own_blk (Kd.R_away HO_5.out (fun _ hk => hk.2)) | (rw [add_block]; exact Kd.own_blk (Kd.R_away HO_5.out (fun _ hk => hk.2))) | (show (Addr.add _ _).block ≠ _; rw [add_block]; exact Kd.own_blk (Kd.R_away HO_5.out (fun _ hk => hk.2))) | (dsimp only; exact Kd.own_blk (Kd.R_away HO_5.out (fun _ hk => hk.2)))) _).trans (((cell_far (p := ⟨gb295, _, none⟩) (by first | exact Kd.own_blk (Kd.R_away HO_5.out (fun _ hk => hk.2)) | (rw [add_block]; exact Kd.own_blk (Kd.R_away HO_5.out (fun _ hk => hk.2))) | (show (Addr.add _ _).block ≠ _; rw [add_block]; exact Kd.own_blk (Kd.R_away HO_5.out (fun _ hk => hk.2))) | (dsimp only; exact Kd.own_blk (Kd.R_away HO_5.out (fun _ hk => hk.2)))) _).trans (hHeld.2.2.2.2.1)))), ((cell_far (p := ⟨gb295, _, none⟩) (by first | exact Kd.own_blk (Kd.R_away HO_5.out (fun _ hk => hk.2)) | (rw [add_block]; exact Kd.own_blk (Kd.R_away HO_5.out (fun _ hk => hk.2))) | (show (Addr.add _ _).block ≠ _; rw [add_block]; exact Kd.own_blk (Kd.R_away HO_5.out (fun _ hk => hk.2))) | (dsimp only; exact Kd.own_blk (Kd.R_away HO_5.out (fun _ hk => hk.2)))) _).trans (((cell_far (p := ⟨gb295, _, none⟩) (by first | exact Kd.own_blk (Kd.R_away HO_5.out (fun _ hk => hk.2)) | (rw [add_block]; exact Kd.own_blk (Kd.R_away HO_5.out (fun _ hk => hk.2))) | (show (Addr.add _ _).block ≠ _; rw [add_block]; exact Kd.own_blk (Kd.R_away HO_5.out (fun _ hk => hk.2))) | (dsimp only; exact Kd.own_blk (Kd.R_away HO_5.out (fun _ hk => hk.2)))) _).trans (hHeld.2.2.2.2.2))))⟩ (fun hHeld => ?_)
            clear hK K
            refine pZ (i := 12) (N := some 9) #[Tt, Tt, Tt, Tt, Tt, Tt, Tt, Tt, Tt, Tt, Tt, Tt, Tt] ?_
            refine done_ (done_of HT_.out (by kernel_rfl)) ?_
            have hnb37 := NB295_286.out
            have hnc37 := NB286_295.out
            have hnb38 := NB295_287.out
            have hnc38 := NB287_295.out
            have hcz39_0 : w34.cell? ⟨gb295, 0, none⟩ = some (.int .i64 0) := (blk_cell BK295.out 0).trans rfl
            have hcz39_1 : w34.cell? ⟨gb295, 1, none⟩ = some (.int .i64 0) := (blk_cell BK295.out 1).trans rfl
            have hfz39_0 := blk_frozen BK295.out 0
            have hfz39_1 := blk_frozen BK295.out 1
            try go_wp2_with (first | (go_at_call 77; (with_reducible refine (spec_liHas.calls k2 _ _ x5_2 t292 t293 false _ ?side1 ?side2 A16.out).mono ?_); (case side1 => refine (Kd.R_reads' (e := 36) (base := w.heap.size) (ok := fun k_ => (k_ ≠ gb287 ∧ k_ ≠ gb295)) (n := x5_2.length) (c := co31) ?_).2.2; exact (by (with_reducible repeat (first | apply Kd.R_alloc | apply Kd.R_drewN | apply Kd.R_drew)); exact (Kd.R_mono (Kd.R_far (p := ⟨gb295, 1, none⟩) (Kd.R_far (p := ⟨gb295, 0, none⟩) (Kd.R_mono HO_5.out (fun k_ hk => (⟨hk, hk.2⟩ : _ ∧ k_ ≠ gb295))) (fun _ hk => hk.2) (.int .i64 t292)) (fun _ hk => hk.2) (.int .i64 t293)) (fun _ h_ => h_.1)))); (case side2 => exact (Kd.R_reads' HO_5.out).2.1); rintro e w40 ⟨rfl, hb⟩; have n0_ := Aside0.mk (Kd.R_below (by (with_reducible repeat (first | apply Kd.R_alloc | apply Kd.R_drewN | apply Kd.R_drew)); exact (Kd.R_mono (Kd.R_far (p := ⟨gb295, 1, none⟩) (Kd.R_far (p := ⟨gb295, 0, none⟩) (Kd.R_mono HO_5.out (fun k_ hk => (⟨hk, hk.2⟩ : _ ∧ k_ ≠ gb295))) (fun _ hk => hk.2) (.int .i64 t292)) (fun _ hk => hk.2) (.int .i64 t293)) (fun _ h_ => h_.1))) hb); have n1_ := Aside0.mk (blk_below (g := gb286) (o := .cells #[.int .i64 a0_0, .int .i64 a0_1, .slice A0_2 l0_2.length c0_2, .slice A0_3 l0_3.length c0_3] 28 (0, 0)) (bf2_ NB286_295.out NB286_295.out BK286.out) hb); have n2_ := Aside0.mk (blk_below (g := gb287) (o := .cells #[.int .i64 a1_0, .int .i64 a1_1] 36 (0, 0)) (bf2_ NB287_295.out NB287_295.out BK287.out) hb); have n3_ := Aside0.mk (blk_below (g := gb295) (o := .cells #[.int .i64 t292, .int .i64 t293] 36 (0, 0)) (by (with_reducible repeat (first | refine blk_drewN ?_ _ | refine blk_drew ?_ | refine blk_alloc ?_ _)); refine blk_put (cs := #[.int .i64 t292, .int .i64 0]) ?_ 1 _ rfl; (with_reducible repeat (first | refine blk_drewN ?_ _ | refine blk_drew ?_ | refine blk_alloc ?_ _)); refine blk_put (cs := #[.int .i64 0, .int .i64 0]) ?_ 0 _ rfl; (with_reducible repeat (first | refine blk_drewN ?_ _ | refine blk_drew ?_ | refine blk_alloc ?_ _)); exact BK295.out) hb); have n4_ := Aside0.mk (below_step (bl3_ HB.out GE286.out GE287.out GE295.out) hb); clear HO_5; clear BK286; clear BK287; clear BK295; clear HB; have HO_5 := n0_; have BK286 := n1_; have BK287 := n2_; have BK295 := n3_; have HB := n4_; clear n0_ n1_ n2_ n3_ n4_; (try clear hb); (try clear hb2); (try clear hk); (try clear hi); have hcz41_0 : w40.cell? ⟨gb295, 0, none⟩ = some (.int .i64 t292) := (blk_cell BK295.out 0).trans rfl; have hcz41_1 : w40.cell? ⟨gb295, 1, none⟩ = some (.int .i64 t293) := (blk_cell BK295.out 1).trans rfl; have hfz41_0 := blk_frozen BK295.out 0; have hfz41_1 := blk_frozen BK295.out 1) | ((with_reducible refine gate_builtin (b := .append) (xs := #[.tmp 39, .tmp 41]) rfl ?_); at_builtin; refine Kd.R_append k36 (w0 := w) w.heap.size rfl (.tmp 39) (.tmp 41) 48 36 (.agg #[(.int .i64 0), (.int .i64 0)]) 16 rfl Try.underlying48 info36 rfl (by decide) (by omega) (.slice (some ad291) x5_2.length co31) x5_2 (⟨t292, t293⟩ : S36) [.int .i64 t292, .int .i64 t293] (fun k_ => k_ ≠ gb287 ∧ k_ ≠ gb295) (fun _ => False) rfl rfl ?aP (fun _ hk => hk.elim) ?aF ?aO ?aB ?aS ?aL ?_; (case aP => exact k36_mkM _ _ _ (⟨t292, t293⟩ : S36)); (case aB => exact (bl3_ HB.out GE286.out GE287.out GE295.out)); (case aF => exact (fun k_ hk => ⟨Kd.freshB (g := gb287) (o := .cells #[.int .i64 a1_0, .int .i64 a1_1] 36 (0, 0)) (bk_ BK287.out) k_ hk, Kd.freshB (g := gb295) (o := .cells #[.int .i64 t292, .int .i64 t293] 36 (0, 0)) (bk_ BK295.out) k_ hk⟩)); (case aO => exact (kr_ HO_5.out)); (case aS => exact (below_size (bl3_ HB.out GE286.out GE287.out GE295.out))); (case aL => have := LMc29.out; omega); intro v298 w42 ho hb hg hat; rw [← Ny297.out] at ho; have n0_ := Aside0.mk (blk_grown (g := gb286) (o := .cells #[.int .i64 a0_0, .int .i64 a0_1, .slice A0_2 l0_2.length c0_2, .slice A0_3 l0_3.length c0_3] 28 (0, 0)) (bk_ BK286.out) hg (Kd.R_ne HO_5.out BK286.out (by decide))); have n1_ := Aside0.mk (blk_grown (g := gb287) (o := .cells #[.int .i64 a1_0, .int .i64 a1_1] 36 (0, 0)) (bk_ BK287.out) hg (Kd.R_away HO_5.out (fun _ hk => hk.1))); have n2_ := Aside0.mk (blk_grown (g := gb295) (o := .cells #[.int .i64 t292, .int .i64 t293] 36 (0, 0)) (bk_ BK295.out) hg (Kd.R_away HO_5.out (fun _ hk => hk.2))); have n3_ := Aside0.mk (hb); have n4_ := Aside0.mk (ho); clear BK286; clear BK287; clear BK295; clear HB; clear HO_5; have BK286 := n0_; have BK287 := n1_; have BK295 := n2_; have HB := n3_; have HO299 := n4_; clear n0_ n1_ n2_ n3_ n4_; clear ho hb hg hat))
            go_roundg k2
            case measure => have := HK1.out; have := HK2.out; omega
            case rel => exact ⟨(y297), (wrap64 (x7_2 + 1)), rs_, H', ⟨by have := HK1.out; have := HK2.out; omega⟩, ⟨by (with_reducible repeat (first | apply Kd.R_alloc | apply Kd.R_drewN | apply Kd.R_drew)); exact Kd.R_mono HO299.out (fun _ hk => hk.1)⟩, ⟨bk_ BK286.out⟩, ⟨bk_ BK287.out⟩, ⟨bl3_ HB.out GE286.out GE287.out GE295.out⟩⟩
           ·rw [if_neg c29] at H
            exact absurd H (by simp)
         ·replace c15 := Bool.eq_false_iff.mpr c15
          subst c15
          have H1 : (spec_liReach.l1 k2 x5_2 x6_1 (wrap64 (x7_2 + 1)) a0_0 a0_1 l0_2 l0_3) = some r := by rw [if_neg (show ¬ (false = true) by decide)] at H; exact H
          clear H
          have H := H1
          clear H1
          have H' := Aside0.mk H
          clear H
          try go_wp2
          have n0_ := Aside0.mk (Kd.R_drew HO_5.out)
          have n1_ := Aside0.mk (blk_drew BK286.out)
          have n2_ := Aside0.mk (blk_drew BK287.out)
          have n3_ := Aside0.mk (below_drew1 HB.out)
          clear HO_5
          clear BK286
          clear BK287
          clear HB
          have HO_5 := n0_
          have BK286 := n1_
          have BK287 := n2_
          have HB := n3_
          clear n0_ n1_ n2_ n3_
          obtain ⟨Ao44, co44, eo44⟩ := Kd.R_slice HO_5.out
          (first | subst eo44 | (injection eo44 with f1_ f2_ f3_; have f4_ := f1_.symm; have f5_ := f3_.symm; clear f1_ f2_ f3_; subst f4_; subst f5_))
          have p291 : 0 ≤ (x6_1 : Int) := of_decide_eq_true as_
          have q291 : x6_1 < (x5_2.length : Int) := of_decide_eq_true as_
          obtain ⟨ad291, e291, hx291_0, hx291_1⟩ := at_T36 (Kd.R_reads' HO_5.out).2.2 x6_1 p291 q291
          cases e291
          replace p291 := eq_true p291
          replace q291 := eq_true q291
          refine start_ (n := 13) (S := fun w' => w'.cell? ⟨gb286, 0, none⟩ = some (.int .i64 a0_0) ∧ w'.cell? ⟨gb286, 1, none⟩ = some (.int .i64 a0_1) ∧ w'.cell? ⟨gb286, 2, none⟩ = some (.slice A0_2 l0_2.length c0_2) ∧ w'.cell? ⟨gb286, 3, none⟩ = some (.slice A0_3 l0_3.length c0_3) ∧ w'.cell? (ad291.add ((x6_1).toNat * 2)) = some (.int .i64 ((rd_T36 x5_2 x6_1).f0)) ∧ w'.cell? ⟨(ad291.add ((x6_1).toNat * 2)).block, (ad291.add ((x6_1).toNat * 2)).off + 1, none⟩ = some (.int .i64 ((rd_T36 x5_2 x6_1).f1))) (ds := []) #[Ff, Ff, Ff, Ff, Ff, Ff, Ff, Ff, Ff, Ff, Ff, Ff, Ff] (by kernel_rfl) rfl rfl ⟨(blk_cell BK286.out 0).trans rfl, (blk_cell BK286.out 1).trans rfl, (blk_cell BK286.out 2).trans rfl, (blk_cell BK286.out 3).trans rfl, hx291_0, hx291_1⟩ (fun hHeld => ?_); refine with_tabW spec_liReach.tab8 spec_liReach.bits8 (fun HT_ HW_ => ?_)
          generalize wr.drew = w43 at HO_5 BK286 BK287 HB hx291_0 hx291_1 hHeld ⊢
          refine pZ (i := 1) (N := some 24) #[Ff, Tt, Ff, Ff, Ff, Ff, Ff, Ff, Ff, Ff, Ff, Ff, Ff] ?_
          refine pZ (i := 2) (N := some 25) #[Ff, Tt, Tt, Ff, Ff, Ff, Ff, Ff, Ff, Ff, Ff, Ff, Ff] ?_
          refine pZ (i := 3) (N := some 26) #[Ff, Tt, Tt, Tt, Ff, Ff, Ff, Ff, Ff, Ff, Ff, Ff, Ff] ?_
          refine pZ (i := 5) (N := some 28) #[Ff, Tt, Tt, Tt, Ff, Tt, Ff, Ff, Ff, Ff, Ff, Ff, Ff] ?_
          refine tZ (i := 0) (N := some 23) #[Tt, Tt, Tt, Tt, Ff, Tt, Ff, Ff, Ff, Ff, Ff, Ff, Ff] ?_
          refine tZ (i := 4) (N := some 27) #[Tt, Tt, Tt, Tt, Tt, Tt, Ff, Ff, Ff, Ff, Ff, Ff, Ff] ?_
          refine join_ (σ := Nat) 2 #[Tt, Tt, Tt, Tt, Tt, Tt, Tt, Tt, Tt, Tt, Tt, Ff, Ff] (fun s_ => [(29, .tuple #[.agg #[.int .i64 t292, .int .i64 t293], .bool false]), (8, .pointer (some ⟨s_, 0, none⟩)), (22, .tuple #[.agg #[.int .i64 t292, .int .i64 t293], .bool false]), (30, .agg #[.int .i64 t292, .int .i64 t293]), (31, .bool false)]) (fun s_ w' => (w'.cell? ⟨gb286, 0, none⟩ = some (.int .i64 a0_0) ∧ w'.cell? ⟨gb286, 1, none⟩ = some (.int .i64 a0_1) ∧ w'.cell? ⟨gb286, 2, none⟩ = some (.slice A0_2 l0_2.length c0_2) ∧ w'.cell? ⟨gb286, 3, none⟩ = some (.slice A0_3 l0_3.length c0_3) ∧ w'.cell? (ad291.add ((x6_1).toNat * 2)) = some (.int .i64 ((rd_T36 x5_2 x6_1).f0)) ∧ w'.cell? ⟨(ad291.add ((x6_1).toNat * 2)).block, (ad291.add ((x6_1).toNat * 2)).off + 1, none⟩ = some (.int .i64 ((rd_T36 x5_2 x6_1).f1))) ∧ (Kd.R k36 36 w' w.heap.size (fun k_ => k_ ≠ gb287 ∧ k_ ≠ s_) (.slice (some ad291) x5_2.length co44) x5_2) ∧ (w'.heap[gb286]? = some (.cells #[.int .i64 a0_0, .int .i64 a0_1, .slice A0_2 l0_2.length c0_2, .slice A0_3 l0_3.length c0_3] 28 (0, 0))) ∧ (w'.heap[gb287]? = some (.cells #[.int .i64 a1_0, .int .i64 a1_1] 36 (0, 0))) ∧ (w'.heap[s_]? = some (.cells #[.int .i64 0, .int .i64 0] 36 (0, 0))) ∧ (w.heap.size ≤ s_) ∧ (w.heap.size ≤ s_) ∧ (gb286 ≠ s_) ∧ (s_ ≠ gb286) ∧ (gb287 ≠ s_) ∧ (s_ ≠ gb287) ∧ (Below w.heap.size w w')) ?_ ?_
          rotate_left
          ·intro hCont
           refine two_ (i := 6) (j := 10) (Ni := some 29) (Nj := some 8) #[Tt, Tt, Tt, Tt, Tt, Tt, Tt, Ff, Ff, Ff, Ff, Ff, Ff] #[Tt, Tt, Tt, Tt, Tt, Tt, Ff, Ff, Ff, Ff, Tt, Ff, Ff] rfl rfl rfl rfl (two_of HT_.out (by kernel_rfl)) (by decide) (by decide) (fun K hK => ?_) (fun K hK => ?_)
           ·skip
            refine goes_ Try.func76 (by kernel_rfl) rfl #[.agg #[.int .i64 a0_0, .int .i64 a0_1, .slice A0_2 l0_2.length c0_2, .slice A0_3 l0_3.length c0_3], .agg #[.int .i64 ((rd_T36 x5_2 x6_1).f0), .int .i64 ((rd_T36 x5_2 x6_1).f1)], .int .i64 x7_2] (by rfl) rfl rfl ob_ ?_
            with_reducible refine (spec_liNext.calls k2 a0_0 a0_1 _ _ l0_2 _ _ l0_3 ((rd_T36 x5_2 x6_1).f0) ((rd_T36 x5_2 x6_1).f1) x7_2 t292 t293 false _ ?side1 ?side2 ?side3 ?side4 A14.out).mono ?_
            (case side1 => exact kc_ (Kd.C_below HR0_2.out HB.out))
            (case side2 => exact HC0_2.out)
            (case side3 => exact kc_ (Kd.C_below HR0_3.out HB.out))
            (case side4 => exact HC0_3.out)
            rintro e w45 ⟨rfl, hb⟩
            have HS4_ := (hb.cell (World.block_lt_of_cell? _ _ (hHeld.2.2.2.2.1))).trans (hHeld.2.2.2.2.1)
            have HS5_ := (hb.cell (World.block_lt_of_cell? _ _ (hHeld.2.2.2.2.2))).trans (hHeld.2.2.2.2.2)
            refine ⟨_, rfl, ?_⟩
            have n0_ := Aside0.mk (Kd.R_below (kr_ HO_5.out) hb)
            have n1_ := Aside0.mk (bb_ BK286.out hb)
            have n2_ := Aside0.mk (bb_ BK287.out hb)
            have n3_ := Aside0.mk (below_step (bl2_ HB.out GE286.out GE287.out) hb)
            clear HO_5
            clear BK286
            clear BK287
            clear HB
            have HO_5 := n0_
            have BK286 := n1_
            have BK287 := n2_
            have HB := n3_
            clear n0_ n1_ n2_ n3_
            (try clear hb)
            (try clear hb2)
            (try clear hk)
            (try clear hi)
            refine hK.out _ _ ⟨(blk_cell BK286.out 0).trans rfl, (blk_cell BK286.out 1).trans rfl, (blk_cell BK286.out 2).trans rfl, (blk_cell BK286.out 3).trans rfl, HS4_, HS5_⟩ (fun hHeld => ?_)
            clear hK K
            refine norm_ (a' := _) ap_ ?_
            refine pZ (i := 7) (N := some 22) #[Tt, Tt, Tt, Tt, Tt, Tt, Tt, Tt, Ff, Ff, Ff, Ff, Ff] ?_
            refine pZ (i := 8) (N := some 30) #[Tt, Tt, Tt, Tt, Tt, Tt, Tt, Tt, Tt, Ff, Ff, Ff, Ff] ?_
            refine pZ (i := 9) (N := some 31) #[Tt, Tt, Tt, Tt, Tt, Tt, Tt, Tt, Tt, Tt, Ff, Ff, Ff] ?_
            refine one_ (i := 10) (N := some 8) #[Tt, Tt, Tt, Tt, Tt, Tt, Tt, Tt, Tt, Tt, Tt, Ff, Ff] rfl rfl (one_of HT_.out (by kernel_rfl)) (by decide) (fun K hK => ?_)
            refine box_step ?hg (N := 8) ?hd (cs := #[.int .i64 0, .int .i64 0]) (t := 36) ?hr ?_; (case hd => rfl); (case hg => rfl); (case hr => first | (go_simp; done) | (go_simp; rfl))
            intro gb295 hg w46 hbox hb
            have HS4_ := (hb.cell (World.block_lt_of_cell? _ _ (hHeld.2.2.2.2.1))).trans (hHeld.2.2.2.2.1)
            have HS5_ := (hb.cell (World.block_lt_of_cell? _ _ (hHeld.2.2.2.2.2))).trans (hHeld.2.2.2.2.2)
            have n0_ := Aside0.mk (Kd.R_below (Kd.R_elderB (kr_ HO_5.out) gb295 (Nat.le_of_eq hg.symm)) hb)
            have n1_ := Aside0.mk (bb_ BK286.out hb)
            have n2_ := Aside0.mk (bb_ BK287.out hb)
            have n3_ := Aside0.mk (below_step (bl2_ HB.out GE286.out GE287.out) hb)
            have n4_ := Aside0.mk (hbox)
            have n5_ := Aside0.mk ((bs2_ hg HB.out GE286.out GE287.out : w.heap.size ≤ gb295))
            have n6_ := Aside0.mk ((bs2_ hg HB.out GE286.out GE287.out : w.heap.size ≤ gb295))
            have n7_ := Aside0.mk ((nl_ hg BK286.out : gb286 ≠ gb295))
            have n8_ := Aside0.mk ((ng_ hg BK286.out : gb295 ≠ gb286))
            have n9_ := Aside0.mk ((nl_ hg BK287.out : gb287 ≠ gb295))
            have n10_ := Aside0.mk ((ng_ hg BK287.out : gb295 ≠ gb287))
            clear HO_5
            clear BK286
            clear BK287
            clear HB
            have HO_5 := n0_
            have BK286 := n1_
            have BK287 := n2_
            have HB := n3_
            have BK295 := n4_
            have GW295 := n5_
            have GE295 := n6_
            have NB286_295 := n7_
            have NB295_286 := n8_
            have NB287_295 := n9_
            have NB295_287 := n10_
            clear n0_ n1_ n2_ n3_ n4_ n5_ n6_ n7_ n8_ n9_ n10_
            clear hb hbox hg
            refine hK.out _ _ ⟨(blk_cell BK286.out 0).trans rfl, (blk_cell BK286.out 1).trans rfl, (blk_cell BK286.out 2).trans rfl, (blk_cell BK286.out 3).trans rfl, HS4_, HS5_⟩ (fun hHeld => ?_)
            clear hK K
            refine norm_ (a' := _) ap_ ?_
            exact norm_ (by simp only [putAll, Act.put, List.setIfInBounds_toArray, List.set_cons_zero, List.set_cons_succ]) (hCont (gb295) _ ⟨hHeld, (kr_ HO_5.out), (bk_ BK286.out), (bk_ BK287.out), (bk_ BK295.out), GW295.out, GE295.out, NB286_295.out, NB295_286.out, NB287_295.out, NB295_287.out, (bl3_ HB.out GE286.out GE287.out GE295.out)⟩)
           ·skip
            refine box_step ?hg (N := 8) ?hd (cs := #[.int .i64 0, .int .i64 0]) (t := 36) ?hr ?_; (case hd => rfl); (case hg => rfl); (case hr => first | (go_simp; done) | (go_simp; rfl))
            intro gb295 hg w45 hbox hb
            have HS4_ := (hb.cell (World.block_lt_of_cell? _ _ (hHeld.2.2.2.2.1))).trans (hHeld.2.2.2.2.1)
            have HS5_ := (hb.cell (World.block_lt_of_cell? _ _ (hHeld.2.2.2.2.2))).trans (hHeld.2.2.2.2.2)
            have n0_ := Aside0.mk (Kd.R_below (Kd.R_elderB (kr_ HO_5.out) gb295 (Nat.le_of_eq hg.symm)) hb)
            have n1_ := Aside0.mk (bb_ BK286.out hb)
            have n2_ := Aside0.mk (bb_ BK287.out hb)
            have n3_ := Aside0.mk (below_step (bl2_ HB.out GE286.out GE287.out) hb)
            have n4_ := Aside0.mk (hbox)
            have n5_ := Aside0.mk ((bs2_ hg HB.out GE286.out GE287.out : w.heap.size ≤ gb295))
            have n6_ := Aside0.mk ((bs2_ hg HB.out GE286.out GE287.out : w.heap.size ≤ gb295))
            have n7_ := Aside0.mk ((nl_ hg BK286.out : gb286 ≠ gb295))
            have n8_ := Aside0.mk ((ng_ hg BK286.out : gb295 ≠ gb286))
            have n9_ := Aside0.mk ((nl_ hg BK287.out : gb287 ≠ gb295))
            have n10_ := Aside0.mk ((ng_ hg BK287.out : gb295 ≠ gb287))
            clear HO_5
            clear BK286
            clear BK287
            clear HB
            have HO_5 := n0_
            have BK286 := n1_
            have BK287 := n2_
            have HB := n3_
            have BK295 := n4_
            have GW295 := n5_
            have GE295 := n6_
            have NB286_295 := n7_
            have NB295_286 := n8_
            have NB287_295 := n9_
            have NB295_287 := n10_
            clear n0_ n1_ n2_ n3_ n4_ n5_ n6_ n7_ n8_ n9_ n10_
            clear hb hbox hg
            refine hK.out _ _ ⟨(blk_cell BK286.out 0).trans rfl, (blk_cell BK286.out 1).trans rfl, (blk_cell BK286.out 2).trans rfl, (blk_cell BK286.out 3).trans rfl, HS4_, HS5_⟩ (fun hHeld => ?_)
            clear hK K
            refine norm_ (a' := _) ap_ ?_
            refine one_ (i := 6) (N := some 29) #[Tt, Tt, Tt, Tt, Tt, Tt, Tt, Ff, Ff, Ff, Tt, Ff, Ff] rfl rfl (one_of HT_.out (by kernel_rfl)) (by decide) (fun K hK => ?_)
            refine goes_ Try.func76 (by kernel_rfl) rfl #[.agg #[.int .i64 a0_0, .int .i64 a0_1, .slice A0_2 l0_2.length c0_2, .slice A0_3 l0_3.length c0_3], .agg #[.int .i64 ((rd_T36 x5_2 x6_1).f0), .int .i64 ((rd_T36 x5_2 x6_1).f1)], .int .i64 x7_2] (by rfl) rfl rfl ob_ ?_
            with_reducible refine (spec_liNext.calls k2 a0_0 a0_1 _ _ l0_2 _ _ l0_3 ((rd_T36 x5_2 x6_1).f0) ((rd_T36 x5_2 x6_1).f1) x7_2 t292 t293 false _ ?side1 ?side2 ?side3 ?side4 A14.out).mono ?_
            (case side1 => exact kc_ (Kd.C_below HR0_2.out HB.out))
            (case side2 => exact HC0_2.out)
            (case side3 => exact kc_ (Kd.C_below HR0_3.out HB.out))
            (case side4 => exact HC0_3.out)
            rintro e w46 ⟨rfl, hb⟩
            have HS4_ := (hb.cell (World.block_lt_of_cell? _ _ (hHeld.2.2.2.2.1))).trans (hHeld.2.2.2.2.1)
            have HS5_ := (hb.cell (World.block_lt_of_cell? _ _ (hHeld.2.2.2.2.2))).trans (hHeld.2.2.2.2.2)
            refine ⟨_, rfl, ?_⟩
            have n0_ := Aside0.mk (Kd.R_below (kr_ HO_5.out) hb)
            have n1_ := Aside0.mk (bb_ BK286.out hb)
            have n2_ := Aside0.mk (bb_ BK287.out hb)
            have n3_ := Aside0.mk (bb_ BK295.out hb)
            have n4_ := Aside0.mk (below_step (bl3_ HB.out GE286.out GE287.out GE295.out) hb)
            clear HO_5
            clear BK286
            clear BK287
            clear BK295
            clear HB
            have HO_5 := n0_
            have BK286 := n1_
            have BK287 := n2_
            have BK295 := n3_
            have HB := n4_
            clear n0_ n1_ n2_ n3_ n4_
            (try clear hb)
            (try clear hb2)
            (try clear hk)
            (try clear hi)
            refine hK.out _ _ ⟨(blk_cell BK286.out 0).trans rfl, (blk_cell BK286.out 1).trans rfl, (blk_cell BK286.out 2).trans rfl, (blk_cell BK286.out 3).trans rfl, HS4_, HS5_⟩ (fun hHeld => ?_)
            clear hK K
            refine norm_ (a' := _) ap_ ?_
            refine pZ (i := 7) (N := some 22) #[Tt, Tt, Tt, Tt, Tt, Tt, Tt, Tt, Ff, Ff, Tt, Ff, Ff] ?_
            refine pZ (i := 8) (N := some 30) #[Tt, Tt, Tt, Tt, Tt, Tt, Tt, Tt, Tt, Ff, Tt, Ff, Ff] ?_
            refine pZ (i := 9) (N := some 31) #[Tt, Tt, Tt, Tt, Tt, Tt, Tt, Tt, Tt, Tt, Tt, Ff, Ff] ?_
            exact norm_ (by simp only [putAll, Act.put, List.setIfInBounds_toArray, List.set_cons_zero, List.set_cons_succ]) (hCont (gb295) _ ⟨hHeld, (kr_ HO_5.out), (bk_ BK286.out), (bk_ BK287.out), (bk_ BK295.out), GW295.out, GE295.out, NB286_295.out, NB295_286.out, NB287_295.out, NB295_287.out, (bl3_ HB.out GE286.out GE287.out GE295.out)⟩)
          rintro gb295 w47 ⟨hS_, h0_, h1_, h2_, h3_, h4_, h5_, h6_, h7_, h8_, h9_, h10_⟩
          have n0_ : Aside0 (Kd.R k36 36 w47 w.heap.size (fun k_ => k_ ≠ gb287 ∧ k_ ≠ gb295) (.slice (some ad291) x5_2.length co44) x5_2) := ⟨h0_⟩
          have n1_ : Aside0 (w47.heap[gb286]? = some (.cells #[.int .i64 a0_0, .int .i64 a0_1, .slice A0_2 l0_2.length c0_2, .slice A0_3 l0_3.length c0_3] 28 (0, 0))) := ⟨h1_⟩
          have n2_ : Aside0 (w47.heap[gb287]? = some (.cells #[.int .i64 a1_0, .int .i64 a1_1] 36 (0, 0))) := ⟨h2_⟩
          have n3_ : Aside0 (w47.heap[gb295]? = some (.cells #[.int .i64 0, .int .i64 0] 36 (0, 0))) := ⟨h3_⟩
          have n4_ : Aside0 (w.heap.size ≤ gb295) := ⟨h4_⟩
          have n5_ : Aside0 (w.heap.size ≤ gb295) := ⟨h5_⟩
          have n6_ : Aside0 (gb286 ≠ gb295) := ⟨h6_⟩
          have n7_ : Aside0 (gb295 ≠ gb286) := ⟨h7_⟩
          have n8_ : Aside0 (gb287 ≠ gb295) := ⟨h8_⟩
          have n9_ : Aside0 (gb295 ≠ gb287) := ⟨h9_⟩
          have n10_ : Aside0 (Below w.heap.size w w47) := ⟨h10_⟩
          clear HO_5
          clear BK286
          clear BK287
          clear HB
          clear h0_ h1_ h2_ h3_ h4_ h5_ h6_ h7_ h8_ h9_ h10_
          have HO_5 := n0_
          have BK286 := n1_
          have BK287 := n2_
          have BK295 := n3_
          have GW295 := n4_
          have GE295 := n5_
          have NB286_295 := n6_
          have NB295_286 := n7_
          have NB287_295 := n8_
          have NB295_287 := n9_
          have HB := n10_
          clear n0_ n1_ n2_ n3_ n4_ n5_ n6_ n7_ n8_ n9_ n10_
          have hHeld : w47.cell? ⟨gb286, 0, none⟩ = some (.int .i64 a0_0) ∧ w47.cell? ⟨gb286, 1, none⟩ = some (.int .i64 a0_1) ∧ w47.cell? ⟨gb286, 2, none⟩ = some (.slice A0_2 l0_2.length c0_2) ∧ w47.cell? ⟨gb286, 3, none⟩ = some (.slice A0_3 l0_3.length c0_3) ∧ w47.cell? (ad291.add ((x6_1).toNat * 2)) = some (.int .i64 ((rd_T36 x5_2 x6_1).f0)) ∧ w47.cell? ⟨(ad291.add ((x6_1).toNat * 2)).block, (ad291.add ((x6_1).toNat * 2)).off + 1, none⟩ = some (.int .i64 ((rd_T36 x5_2 x6_1).f1)) := hS_
          refine norm_ (a' := ?_) ?_ ?_
          rotate_left
          ·simp only [putAll, Act.put, List.setIfInBounds_toArray, List.set_cons_zero, List.set_cons_succ]
           rfl
          refine one_ (i := 11) (N := none) #[Tt, Tt, Tt, Tt, Tt, Tt, Tt, Tt, Tt, Tt, Tt, Tt, Ff] rfl rfl (one_of HT_.out (by kernel_rfl)) (by decide) (fun K hK => ?_)
          have hs48 : w47.cell? ⟨gb295, 0, none⟩ = some (.int .i64 0) := (blk_cell BK295.out 0).trans rfl
          have hfs48 := blk_frozen BK295.out 0
          have hns48_0 := NB286_295.out
          have hns48_1 := NB287_295.out
          have hms48_0 := NB295_286.out
          have hms48_1 := NB295_287.out
          have hs49 : w47.cell? ⟨gb295, 1, none⟩ = some (.int .i64 0) := (blk_cell BK295.out 1).trans rfl
          have hfs49 := blk_frozen BK295.out 1
          have hns49_0 := NB286_295.out
          have hns49_1 := NB287_295.out
          have hms49_0 := NB295_286.out
          have hms49_1 := NB295_287.out
          refine skip_ (w1 := ?_) (by rfl) rfl ?_ ?_
          rotate_left
          ·go_simp
           rfl
          refine hK.out _ _ ⟨((cell_far (p := ⟨gb295, _, none⟩) NB286_295.out _).trans (((cell_far (p := ⟨gb295, _, none⟩) NB286_295.out _).trans (hHeld.1)))), ((cell_far (p := ⟨gb295, _, none⟩) NB286_295.out _).trans (((cell_far (p := ⟨gb295, _, none⟩) NB286_295.out _).trans (hHeld.2.1)))), ((cell_far (p := ⟨gb295, _, none⟩) NB286_295.out _).trans (((cell_far (p := ⟨gb295, _, none⟩) NB286_295.out _).trans (hHeld.2.2.1)))), ((cell_far (p := ⟨gb295, _, none⟩) NB286_295.out _).trans (((cell_far (p := ⟨gb295, _, none⟩) NB286_295.out _).trans (hHeld.2.2.2.1)))), ((cell_far (p := ⟨gb295, _, none⟩) (by first | exact Kd.own_blk (Kd.R_away HO_5.out (fun _ hk => hk.2)) | (rw [add_block]; exact Kd.own_blk (Kd.R_away HO_5.out (fun _ hk => hk.2))) | (show (Addr.add _ _).block ≠ _; rw [add_block]; exact Kd.own_blk (Kd.R_away HO_5.out (fun _ hk => hk.2))) | (dsimp only; exact Kd.own_blk (Kd.R_away HO_5.out (fun _ hk => hk.2)))) _).trans (((cell_far (p := ⟨gb295, _, none⟩) (by first | exact Kd.own_blk (Kd.R_away HO_5.out (fun _ hk => hk.2)) | (rw [add_block]; exact Kd.own_blk (Kd.R_away HO_5.out (fun _ hk => hk.2))) | (show (Addr.add _ _).block ≠ _; rw [add_block]; exact Kd.own_blk (Kd.R_away HO_5.out (fun _ hk => hk.2))) | (dsimp only; exact Kd.own_blk (Kd.R_away HO_5.out (fun _ hk => hk.2)))) _).trans (hHeld.2.2.2.2.1)))), ((cell_far (p := ⟨gb295, _, none⟩) (by first | exact Kd.own_blk (Kd.R_away HO_5.out (fun _ hk => hk.2)) | (rw [add_block]; exact Kd.own_blk (Kd.R_away HO_5.out (fun _ hk => hk.2))) | (show (Addr.add _ _).block ≠ _; rw [add_block]; exact Kd.own_blk (Kd.R_away HO_5.out (fun _ hk => hk.2))) | (dsimp only; exact Kd.own_blk (Kd.R_away HO_5.out (fun _ hk => hk.2)))) _).trans (((cell_far (p := ⟨gb295, _, none⟩) (by first | exact Kd.own_blk (Kd.R_away HO_5.out (fun _ hk => hk.2)) | (rw [add_block]; exact Kd.own_blk (Kd.R_away HO_5.out (fun _ hk => hk.2))) | (show (Addr.add _ _).block ≠ _; rw [add_block]; exact Kd.own_blk (Kd.R_away HO_5.out (fun _ hk => hk.2))) | (dsimp only; exact Kd.own_blk (Kd.R_away HO_5.out (fun _ hk => hk.2)))) _).trans (hHeld.2.2.2.2.2))))⟩ (fun hHeld => ?_)
          clear hK K
          refine pZ (i := 12) (N := some 9) #[Tt, Tt, Tt, Tt, Tt, Tt, Tt, Tt, Tt, Tt, Tt, Tt, Tt] ?_
          refine done_ (done_of HT_.out (by kernel_rfl)) ?_
          try go_wp2
          go_roundg k2
          case measure => have := HK1.out; have := HK2.out; omega
          case rel => exact ⟨(x5_2), (wrap64 (x7_2 + 1)), rs_, H', ⟨by have := HK1.out; have := HK2.out; omega⟩, ⟨by (with_reducible repeat (first | apply Kd.R_alloc | apply Kd.R_drewN | apply Kd.R_drew)); exact Kd.R_mono (Kd.R_far (p := ⟨gb295, 1, none⟩) (Kd.R_far (p := ⟨gb295, 0, none⟩) (Kd.R_mono HO_5.out (fun k_ hk => (⟨hk, hk.2⟩ : _ ∧ k_ ≠ gb295))) (fun _ hk => hk.2) (.int .i64 t292)) (fun _ hk => hk.2) (.int .i64 t293)) (fun _ hk => hk.1.1)⟩, ⟨bf2_ NB286_295.out NB286_295.out BK286.out⟩, ⟨bf2_ NB287_295.out NB287_295.out BK287.out⟩, ⟨bl3_ HB.out GE286.out GE287.out GE295.out⟩⟩
        ·rw [if_neg c13] at H
         exact absurd H (by simp)
       ·rw [if_neg c12] at H
        exact absurd H (by simp)
      ·rw [if_neg c11] at H
       have c11b0 : decide (x7_2 < 4) = false := decide_eq_false c11
       clear c11
       have H' := Aside0.mk H
       clear H
       go_wp2
       go_roundg k2
       case measure => have := HK1.out; have := HK2.out; omega
       case rel => exact ⟨(x5_2), (wrap64 (x6_1 + 1)), rs_, H', ⟨by have := HK1.out; have := HK2.out; omega⟩, ⟨kr_ HO_5.out⟩, ⟨bk_ BK286.out⟩, ⟨bk_ BK287.out⟩, ⟨bl2_ HB.out GE286.out GE287.out⟩⟩
   ·rw [if_neg c9] at H
    have c9b0 : decide (x6_1 < (x5_1.length : Int)) = false := decide_eq_false c9
    clear c9
    obtain rfl := Option.some.inj H
    obtain ⟨Ao50, co50, eo50⟩ := Kd.R_slice HO_5.out
    subst eo50
    go_wp2
    go_ret
    exact ⟨_, er_, by (with_reducible repeat (first | apply Kd.R_alloc | apply Kd.R_drewN | apply Kd.R_drew)); exact Kd.R_mono HO_5.out (fun _ hk => trivial), bl2_ HB.out GE286.out GE287.out⟩


mutual
def spec_liPart.l0 : Nat → List (S36) → Int → Int → Int → Int → List Int → List Int → Int → Int → List Int → List Int → Option (Int × Int × List Int × List Int)
 | 0, _, _, _, _, _, _, _, _, _, _, _ => none
 | k + 1, x19, x20, x21, x301000, x301001, x301002, x301003, x304000, x304001, x304002, x304003 => if x21 < x20 then (if 0 ≤ x21 then (if x21 < (x19.length : Int) then ((spec_liNext.f k x301000 x301001 x301002 x301003 ((rd_T36 x19 x21).f0) ((rd_T36 x19 x21).f1) 1).bind fun bt309 => (if bt309.2.2 = true then ((spec_fiPut.f k x304000 x304001 x304002 x304003 false ((rd_T36 x19 x21).f0) ((rd_T36 x19 x21).f1)).bind fun bt313 => (spec_liPart.j1 k x19 x20 x21 x301000 x301001 x301002 x301003 bt313.1 bt313.2.1 bt313.2.2.1 bt313.2.2.2 ((rd_T36 x19 x21).f0) ((rd_T36 x19 x21).f1))) else (spec_liPart.j1 k x19 x20 x21 x301000 x301001 x301002 x301003 x304000 x304001 x304002 x304003 ((rd_T36 x19 x21).f0) ((rd_T36 x19 x21).f1)))) else (none)) else (none)) else (some (x304000, x304001, x304002, x304003))
def spec_liPart.j1 : Nat → List (S36) → Int → Int → Int → Int → List Int → List Int → Int → Int → List Int → List Int → Int → Int → Option (Int × Int × List Int × List Int)
 | 0, _, _, _, _, _, _, _, _, _, _, _, _, _ => none
 | k + 1, x19, x20, x21, x301000, x301001, x301002, x301003, x304000, x304001, x304002, x304003, x309000, x309001 => (spec_liNext.f k x301000 x301001 x301002 x301003 x309000 x309001 2).bind fun bt321 => (if bt321.2.2 = true then ((spec_fiPut.f k x304000 x304001 x304002 x304003 true x309000 x309001).bind fun bt325 => (spec_liPart.l0 k x19 x20 (wrap64 (x21 + 1)) x301000 x301001 x301002 x301003 bt325.1 bt325.2.1 bt325.2.2.1 bt325.2.2.2)) else (spec_liPart.l0 k x19 x20 (wrap64 (x21 + 1)) x301000 x301001 x301002 x301003 x304000 x304001 x304002 x304003))
end
def spec_liPart.f (k : Nat) (a0_0 : Int) (a0_1 : Int) (l0_2 : List Int) (l0_3 : List Int) (a1_0 : Int) (a1_1 : Int) : Option (Int × Int × List Int × List Int) := (spec_liReach.f k a0_0 a0_1 l0_2 l0_3 a1_0 a1_1).bind fun t304 => (spec_liPart.l0 k t304 (t304.length : Int) 0 a0_0 a0_1 l0_2 l0_3 a0_0 a0_1 ([] : List Int) ([] : List Int))
theorem spec_liPart.mono_l : ∀ k, (∀ y0 y1 y2 y3 y4 y5 y6 y7 y8 y9 y10, LeO (spec_liPart.l0 k y0 y1 y2 y3 y4 y5 y6 y7 y8 y9 y10) (spec_liPart.l0 (k + 1) y0 y1 y2 y3 y4 y5 y6 y7 y8 y9 y10)) ∧ (∀ y0 y1 y2 y3 y4 y5 y6 y7 y8 y9 y10 y11 y12, LeO (spec_liPart.j1 k y0 y1 y2 y3 y4 y5 y6 y7 y8 y9 y10 y11 y12) (spec_liPart.j1 (k + 1) y0 y1 y2 y3 y4 y5 y6 y7 y8 y9 y10 y11 y12))
 | 0 => ⟨fun _ _ _ _ _ _ _ _ _ _ _ r h => by simp [spec_liPart.l0] at h, fun _ _ _ _ _ _ _ _ _ _ _ _ _ r h => by simp [spec_liPart.j1] at h⟩
 | k + 1 => by
  obtain ⟨ih0, ih1⟩ := spec_liPart.mono_l k
  refine ⟨?_, ?_⟩
  ·intro y0 y1 y2 y3 y4 y5 y6 y7 y8 y9 y10
   unfold spec_liPart.l0
   repeat' first
   | (with_reducible exact ih0 _ _ _ _ _ _ _ _ _ _ _)
   | (with_reducible exact ih1 _ _ _ _ _ _ _ _ _ _ _ _ _)
   | (with_reducible exact spec_fiPut.mono _ _ _ _ _ _ _ _)
   | (with_reducible exact spec_liNext.mono _ _ _ _ _ _ _ _)
   | (with_reducible exact spec_liReach.mono _ _ _ _ _ _ _)
   | (with_reducible exact LeO.refl _)
   | (with_reducible exact LeO.none _)
   | (with_reducible refine LeO.ite ?_ ?_)
   | (with_reducible refine LeO.bind ?_ (fun _ => ?_))
   | exact ih0 _ _ _ _ _ _ _ _ _ _ _
   | exact ih1 _ _ _ _ _ _ _ _ _ _ _ _ _
   | exact spec_fiPut.mono _ _ _ _ _ _ _ _
   | exact spec_liNext.mono _ _ _ _ _ _ _ _
   | exact spec_liReach.mono _ _ _ _ _ _ _
   | exact LeO.none _
   | refine LeO.ite ?_ ?_
   | refine LeO.bind ?_ (fun _ => ?_)
  ·intro y0 y1 y2 y3 y4 y5 y6 y7 y8 y9 y10 y11 y12
   unfold spec_liPart.j1
   repeat' first
   | (with_reducible exact ih0 _ _ _ _ _ _ _ _ _ _ _)
   | (with_reducible exact ih1 _ _ _ _ _ _ _ _ _ _ _ _ _)
   | (with_reducible exact spec_fiPut.mono _ _ _ _ _ _ _ _)
   | (with_reducible exact spec_liNext.mono _ _ _ _ _ _ _ _)
   | (with_reducible exact spec_liReach.mono _ _ _ _ _ _ _)
   | (with_reducible exact LeO.refl _)
   | (with_reducible exact LeO.none _)
   | (with_reducible refine LeO.ite ?_ ?_)
   | (with_reducible refine LeO.bind ?_ (fun _ => ?_))
   | exact ih0 _ _ _ _ _ _ _ _ _ _ _
   | exact ih1 _ _ _ _ _ _ _ _ _ _ _ _ _
   | exact spec_fiPut.mono _ _ _ _ _ _ _ _
   | exact spec_liNext.mono _ _ _ _ _ _ _ _
   | exact spec_liReach.mono _ _ _ _ _ _ _
   | exact LeO.none _
   | refine LeO.ite ?_ ?_
   | refine LeO.bind ?_ (fun _ => ?_)
theorem spec_liPart.mono : ∀ a0 a1 a2 a3 a4 a5 k, LeO (spec_liPart.f k a0 a1 a2 a3 a4 a5) (spec_liPart.f (k + 1) a0 a1 a2 a3 a4 a5) := by
 intro a0 a1 a2 a3 a4 a5 k
 obtain ⟨ih0, ih1⟩ := spec_liPart.mono_l k
 unfold spec_liPart.f
 repeat' first
   | (with_reducible exact ih0 _ _ _ _ _ _ _ _ _ _ _)
   | (with_reducible exact ih1 _ _ _ _ _ _ _ _ _ _ _ _ _)
   | (with_reducible exact spec_fiPut.mono _ _ _ _ _ _ _ _)
   | (with_reducible exact spec_liNext.mono _ _ _ _ _ _ _ _)
   | (with_reducible exact spec_liReach.mono _ _ _ _ _ _ _)
   | (with_reducible exact LeO.refl _)
   | (with_reducible exact LeO.none _)
   | (with_reducible refine LeO.ite ?_ ?_)
   | (with_reducible refine LeO.bind ?_ (fun _ => ?_))
   | exact ih0 _ _ _ _ _ _ _ _ _ _ _
   | exact ih1 _ _ _ _ _ _ _ _ _ _ _ _ _
   | exact spec_fiPut.mono _ _ _ _ _ _ _ _
   | exact spec_liNext.mono _ _ _ _ _ _ _ _
   | exact spec_liReach.mono _ _ _ _ _ _ _
   | exact LeO.none _
   | refine LeO.ite ?_ ?_
   | refine LeO.bind ?_ (fun _ => ?_)
set_option maxHeartbeats 8000000 in
set_option maxRecDepth 100000 in
theorem spec_liPart.calls (k : Nat) (a0_0 : Int) (a0_1 : Int) (A0_2 : Option Addr) (c0_2 : Nat) (l0_2 : List Int) (A0_3 : Option Addr) (c0_3 : Nat) (l0_3 : List Int) (a1_0 : Int) (a1_1 : Int) (r1 : Int) (r2 : Int) (r3 : List Int) (r4 : List Int) (w : World) (hr0_2 : Kd.C (Kd.int .i64) w A0_2 l0_2.length l0_2) (hc0_2 : l0_2.length ≤ c0_2) (hr0_3 : Kd.C (Kd.int .i64) w A0_3 l0_3.length l0_3) (hc0_3 : l0_3.length ≤ c0_3) (h : spec_liPart.f k a0_0 a0_1 l0_2 l0_3 a1_0 a1_1 = some (r1, r2, r3, r4)) :
  Calls Try.prog 146 #[.agg #[.int .i64 a0_0, .int .i64 a0_1, .slice A0_2 l0_2.length c0_2, .slice A0_3 l0_3.length c0_3], .agg #[.int .i64 a1_0, .int .i64 a1_1]] w fun e w' => ∃ v2_ v3_ : Value, e = .returned (.agg #[.int .i64 r1, .int .i64 r2, v2_, v3_]) ∧ Kd.R (Kd.int .i64) 3 w' w.heap.size (fun k_ => some k_ ≠ (v3_ : Value).ownBlock) v2_ r3 ∧ Kd.R (Kd.int .i64) 3 w' w.heap.size (fun k_ => some k_ ≠ (v2_ : Value).ownBlock) v3_ r4 ∧ Below w.heap.size w w' := by
 have hu28 := Try.underlying28
 have hu36 := Try.underlying36
 have HR0_2 := Aside0.mk hr0_2
 have HC0_2 := Aside0.mk hc0_2
 clear hr0_2 hc0_2
 have HR0_3 := Aside0.mk hr0_3
 have HC0_3 := Aside0.mk hc0_3
 clear hr0_3 hc0_3
 have HB := Aside0.mk (Below.refl w.heap.size w)
 have H : ((spec_liReach.f k a0_0 a0_1 l0_2 l0_3 a1_0 a1_1).bind fun t304 => (spec_liPart.l0 k t304 (t304.length : Int) 0 a0_0 a0_1 l0_2 l0_3 a0_0 a0_1 ([] : List Int) ([] : List Int))) = some (r1, r2, r3, r4) := h
 clear h
 replace H := Option.bind_eq_some_iff.mp H
 obtain ⟨t304, A30, H⟩ := H
 replace H : (spec_liPart.l0 k t304 (t304.length : Int) 0 a0_0 a0_1 l0_2 l0_3 a0_0 a0_1 ([] : List Int) ([] : List Int)) = some (r1, r2, r3, r4) := H
 have A3 := Aside0.mk A30
 clear A30
 have H' := Aside0.mk H
 clear H
 go_enter Try.func146, Try.ntmps146
 go_wp2_with (first | ((with_reducible refine gate_dst (N := 2) rfl ?_); refine boxE_ (N := 2) (cs := #[.int .i64 a0_0, .int .i64 a0_1, .slice A0_2 l0_2.length c0_2, .slice A0_3 l0_3.length c0_3]) (t := 28) ?_; intro gb300 hg w4 hbox hb; have n0_ := Aside0.mk (below_step (bl0_ HB.out) hb); have n1_ := Aside0.mk (hbox); have n2_ := Aside0.mk ((bs0_ hg HB.out : w.heap.size ≤ gb300)); have n3_ := Aside0.mk ((bs0_ hg HB.out : w.heap.size ≤ gb300)); clear HB; have HB := n0_; have BK300 := n1_; have GW300 := n2_; have GE300 := n3_; clear n0_ n1_ n2_ n3_; clear hb hbox hg) | ((with_reducible refine gate_dst (N := 3) rfl ?_); refine boxE_ (N := 3) (cs := #[.int .i64 a1_0, .int .i64 a1_1]) (t := 36) ?_; intro gb301 hg w5 hbox hb; have n0_ := Aside0.mk (bb_ BK300.out hb); have n1_ := Aside0.mk (below_step (bl1_ HB.out GE300.out) hb); have n2_ := Aside0.mk (hbox); have n3_ := Aside0.mk ((bs1_ hg HB.out GE300.out : w.heap.size ≤ gb301)); have n4_ := Aside0.mk ((bs1_ hg HB.out GE300.out : w.heap.size ≤ gb301)); have n5_ := Aside0.mk ((nl_ hg BK300.out : gb300 ≠ gb301)); have n6_ := Aside0.mk ((ng_ hg BK300.out : gb301 ≠ gb300)); clear BK300; clear HB; have BK300 := n0_; have HB := n1_; have BK301 := n2_; have GW301 := n3_; have GE301 := n4_; have NB300_301 := n5_; have NB301_300 := n6_; clear n0_ n1_ n2_ n3_ n4_ n5_ n6_; clear hb hbox hg) | ((with_reducible refine gate_dst (N := 4) rfl ?_); refine boxE_ (N := 4) (cs := #[.int .i64 0, .int .i64 0, .slice none 0 0, .slice none 0 0]) (t := 28) ?_; intro gb302 hg w6 hbox hb; have n0_ := Aside0.mk (bb_ BK300.out hb); have n1_ := Aside0.mk (bb_ BK301.out hb); have n2_ := Aside0.mk (below_step (bl2_ HB.out GE300.out GE301.out) hb); have n3_ := Aside0.mk (hbox); have n4_ := Aside0.mk ((bs2_ hg HB.out GE300.out GE301.out : w.heap.size ≤ gb302)); have n5_ := Aside0.mk ((bs2_ hg HB.out GE300.out GE301.out : w.heap.size ≤ gb302)); have n6_ := Aside0.mk ((nl_ hg BK300.out : gb300 ≠ gb302)); have n7_ := Aside0.mk ((ng_ hg BK300.out : gb302 ≠ gb300)); have n8_ := Aside0.mk ((nl_ hg BK301.out : gb301 ≠ gb302)); have n9_ := Aside0.mk ((ng_ hg BK301.out : gb302 ≠ gb301)); clear BK300; clear BK301; clear HB; have BK300 := n0_; have BK301 := n1_; have HB := n2_; have BK302 := n3_; have GW302 := n4_; have GE302 := n5_; have NB300_302 := n6_; have NB302_300 := n7_; have NB301_302 := n8_; have NB302_301 := n9_; clear n0_ n1_ n2_ n3_ n4_ n5_ n6_ n7_ n8_ n9_; clear hb hbox hg; have hnb7 := NB300_301.out; have hnc7 := NB301_300.out; have hnb8 := NB300_302.out; have hnc8 := NB302_300.out; have hcz9_0 : w6.cell? ⟨gb300, 0, none⟩ = some (.int .i64 a0_0) := (blk_cell BK300.out 0).trans rfl; have hcz9_1 : w6.cell? ⟨gb300, 1, none⟩ = some (.int .i64 a0_1) := (blk_cell BK300.out 1).trans rfl; have hcz9_2 : w6.cell? ⟨gb300, 2, none⟩ = some (.slice A0_2 l0_2.length c0_2) := (blk_cell BK300.out 2).trans rfl; have hcz9_3 : w6.cell? ⟨gb300, 3, none⟩ = some (.slice A0_3 l0_3.length c0_3) := (blk_cell BK300.out 3).trans rfl; have hfz9_0 := blk_frozen BK300.out 0; have hfz9_1 := blk_frozen BK300.out 1; have hfz9_2 := blk_frozen BK300.out 2; have hfz9_3 := blk_frozen BK300.out 3) | ((with_reducible refine gate_dst (N := 5) rfl ?_); refine boxE_ (N := 5) (cs := #[.int .i64 0, .int .i64 0, .slice none 0 0, .slice none 0 0]) (t := 28) ?_; intro gb303 hg w10 hbox hb; have n0_ := Aside0.mk (bb_ BK300.out hb); have n1_ := Aside0.mk (bb_ BK301.out hb); have n2_ := Aside0.mk (bb_ BK302.out hb); have n3_ := Aside0.mk (below_step (bl3_ HB.out GE300.out GE301.out GE302.out) hb); have n4_ := Aside0.mk (hbox); have n5_ := Aside0.mk ((bs3_ hg HB.out GE300.out GE301.out GE302.out : w.heap.size ≤ gb303)); have n6_ := Aside0.mk ((bs3_ hg HB.out GE300.out GE301.out GE302.out : w.heap.size ≤ gb303)); have n7_ := Aside0.mk ((nl_ hg BK300.out : gb300 ≠ gb303)); have n8_ := Aside0.mk ((ng_ hg BK300.out : gb303 ≠ gb300)); have n9_ := Aside0.mk ((nl_ hg BK301.out : gb301 ≠ gb303)); have n10_ := Aside0.mk ((ng_ hg BK301.out : gb303 ≠ gb301)); have n11_ := Aside0.mk ((nl_ hg BK302.out : gb302 ≠ gb303)); have n12_ := Aside0.mk ((ng_ hg BK302.out : gb303 ≠ gb302)); clear BK300; clear BK301; clear BK302; clear HB; have BK300 := n0_; have BK301 := n1_; have BK302 := n2_; have HB := n3_; have BK303 := n4_; have GW303 := n5_; have GE303 := n6_; have NB300_303 := n7_; have NB303_300 := n8_; have NB301_303 := n9_; have NB303_301 := n10_; have NB302_303 := n11_; have NB303_302 := n12_; clear n0_ n1_ n2_ n3_ n4_ n5_ n6_ n7_ n8_ n9_ n10_ n11_ n12_; clear hb hbox hg; have hnb11 := NB303_300.out; have hnc11 := NB300_303.out; have hnb12 := NB303_301.out; have hnc12 := NB301_303.out; have hnb13 := NB303_302.out; have hnc13 := NB302_303.out; have hcz14_0 : w10.cell? ⟨gb303, 0, none⟩ = some (.int .i64 0) := (blk_cell BK303.out 0).trans rfl; have hcz14_1 : w10.cell? ⟨gb303, 1, none⟩ = some (.int .i64 0) := (blk_cell BK303.out 1).trans rfl; have hcz14_2 : w10.cell? ⟨gb303, 2, none⟩ = some (.slice none 0 0) := (blk_cell BK303.out 2).trans rfl; have hcz14_3 : w10.cell? ⟨gb303, 3, none⟩ = some (.slice none 0 0) := (blk_cell BK303.out 3).trans rfl; have hfz14_0 := blk_frozen BK303.out 0; have hfz14_1 := blk_frozen BK303.out 1; have hfz14_2 := blk_frozen BK303.out 2; have hfz14_3 := blk_frozen BK303.out 3; have hcz15_0 : w10.cell? ⟨gb300, 0, none⟩ = some (.int .i64 a0_0) := (blk_cell BK300.out 0).trans rfl; have hcz15_1 : w10.cell? ⟨gb300, 1, none⟩ = some (.int .i64 a0_1) := (blk_cell BK300.out 1).trans rfl; have hcz15_2 : w10.cell? ⟨gb300, 2, none⟩ = some (.slice A0_2 l0_2.length c0_2) := (blk_cell BK300.out 2).trans rfl; have hcz15_3 : w10.cell? ⟨gb300, 3, none⟩ = some (.slice A0_3 l0_3.length c0_3) := (blk_cell BK300.out 3).trans rfl; have hfz15_0 := blk_frozen BK300.out 0; have hfz15_1 := blk_frozen BK300.out 1; have hfz15_2 := blk_frozen BK300.out 2; have hfz15_3 := blk_frozen BK300.out 3; have hnb16 := NB301_302.out; have hnc16 := NB302_301.out; have hcz17_0 : w10.cell? ⟨gb301, 0, none⟩ = some (.int .i64 a1_0) := (blk_cell BK301.out 0).trans rfl; have hcz17_1 : w10.cell? ⟨gb301, 1, none⟩ = some (.int .i64 a1_1) := (blk_cell BK301.out 1).trans rfl; have hfz17_0 := blk_frozen BK301.out 0; have hfz17_1 := blk_frozen BK301.out 1) | ((with_reducible refine gate_callee (f := 175) rfl ?_); refine goesL_ (some 19) rfl rfl Try.func175 (by kernel_rfl) rfl #[.agg #[.int .i64 a0_0, .int .i64 a0_1, .slice A0_2 l0_2.length c0_2, .slice A0_3 l0_3.length c0_3], .agg #[.int .i64 a1_0, .int .i64 a1_1]] rfl ob_ ?_; (with_reducible refine (spec_liReach.calls k a0_0 a0_1 _ _ l0_2 _ _ l0_3 a1_0 a1_1 t304 _ ?side1 ?side2 ?side3 ?side4 A3.out).mono ?_); (case side1 => exact Kd.C_below HR0_2.out (bl4_ HB.out GE300.out GE301.out GE302.out GE303.out)); (case side2 => exact HC0_2.out); (case side3 => exact Kd.C_below HR0_3.out (bl4_ HB.out GE300.out GE301.out GE302.out GE303.out)); (case side4 => exact HC0_3.out); rintro e w18 ⟨v305, rfl, ho0, hb⟩; refine ⟨_, rfl, ?_⟩; have n0_ := Aside0.mk (Kd.R_lower (Kd.R_newB ho0 (g := gb301) (o := .cells #[.int .i64 a1_0, .int .i64 a1_1] 36 (0, 0)) (bf4_ NB301_303.out NB301_303.out NB301_303.out NB301_303.out BK301.out)) (below_size (bl4_ HB.out GE300.out GE301.out GE302.out GE303.out))); have n1_ := Aside0.mk (blk_below (g := gb300) (o := .cells #[.int .i64 a0_0, .int .i64 a0_1, .slice A0_2 l0_2.length c0_2, .slice A0_3 l0_3.length c0_3] 28 (0, 0)) (bf4_ NB300_303.out NB300_303.out NB300_303.out NB300_303.out BK300.out) hb); have n2_ := Aside0.mk (blk_below (g := gb301) (o := .cells #[.int .i64 a1_0, .int .i64 a1_1] 36 (0, 0)) (bf4_ NB301_303.out NB301_303.out NB301_303.out NB301_303.out BK301.out) hb); have n3_ := Aside0.mk (blk_below (g := gb302) (o := .cells #[.int .i64 0, .int .i64 0, .slice none 0 0, .slice none 0 0] 28 (0, 0)) (bf4_ NB302_303.out NB302_303.out NB302_303.out NB302_303.out BK302.out) hb); have n4_ := Aside0.mk (blk_below (g := gb303) (o := .cells #[.int .i64 a0_0, .int .i64 a0_1, .slice none 0 0, .slice none 0 0] 28 (0, 0)) (by (with_reducible repeat (first | refine blk_drewN ?_ _ | refine blk_drew ?_ | refine blk_alloc ?_ _)); refine blk_put (cs := #[.int .i64 a0_0, .int .i64 a0_1, .slice none 0 0, .slice none 0 0]) ?_ 3 _ rfl; (with_reducible repeat (first | refine blk_drewN ?_ _ | refine blk_drew ?_ | refine blk_alloc ?_ _)); refine blk_put (cs := #[.int .i64 a0_0, .int .i64 a0_1, .slice none 0 0, .slice none 0 0]) ?_ 2 _ rfl; (with_reducible repeat (first | refine blk_drewN ?_ _ | refine blk_drew ?_ | refine blk_alloc ?_ _)); refine blk_put (cs := #[.int .i64 a0_0, .int .i64 0, .slice none 0 0, .slice none 0 0]) ?_ 1 _ rfl; (with_reducible repeat (first | refine blk_drewN ?_ _ | refine blk_drew ?_ | refine blk_alloc ?_ _)); refine blk_put (cs := #[.int .i64 0, .int .i64 0, .slice none 0 0, .slice none 0 0]) ?_ 0 _ rfl; (with_reducible repeat (first | refine blk_drewN ?_ _ | refine blk_drew ?_ | refine blk_alloc ?_ _)); exact BK303.out) hb); have n5_ := Aside0.mk (below_step (bl4_ HB.out GE300.out GE301.out GE302.out GE303.out) hb); clear BK300; clear BK301; clear BK302; clear BK303; clear HB; have HO306 := n0_; have BK300 := n1_; have BK301 := n2_; have BK302 := n3_; have BK303 := n4_; have HB := n5_; clear n0_ n1_ n2_ n3_ n4_ n5_; (try clear hb); (try clear hb2); (try clear hk); (try clear hi); (try clear ho0); obtain ⟨Ao19, co19, eo19⟩ := Kd.R_slice HO306.out; subst eo19))
 go_loopg [21] k (fun kq v21 w' => ∃ (x21_1 : Int) (x304000_1 : Int) (x304001_1 : Int) (x304002_1 : List Int) (x304003_1 : List Int) (u304002 : Value) (u304003 : Value), v21 = .int .i64 x21_1 ∧ Aside0 (spec_liPart.l0 kq t304 (t304.length : Int) x21_1 a0_0 a0_1 l0_2 l0_3 x304000_1 x304001_1 x304002_1 x304003_1 = some (r1, r2, r3, r4)) ∧ Aside0 (kq ≤ k) ∧ Aside0 (Kd.R k36 36 w' w.heap.size (fun k_ => k_ ≠ gb301) (.slice Ao19 t304.length co19) t304) ∧ Aside0 (Kd.R (Kd.int .i64) 3 w' w.heap.size (fun k_ => some k_ ≠ (u304003 : Value).ownBlock) u304002 x304002_1) ∧ Aside0 (Kd.R (Kd.int .i64) 3 w' w.heap.size (fun k_ => some k_ ≠ (u304002 : Value).ownBlock) u304003 x304003_1) ∧ Aside0 (w'.heap[gb300]? = some (.cells #[.int .i64 a0_0, .int .i64 a0_1, (.slice A0_2 l0_2.length c0_2), (.slice A0_3 l0_3.length c0_3)] 28 (0, 0))) ∧ Aside0 (w'.heap[gb301]? = some (.cells #[.int .i64 a1_0, .int .i64 a1_1] 36 (0, 0))) ∧ Aside0 (w'.heap[gb302]? = some (.cells #[.int .i64 0, .int .i64 0, (.slice none 0 0), (.slice none 0 0)] 28 (0, 0))) ∧ Aside0 (w'.heap[gb303]? = some (.cells #[.int .i64 x304000_1, .int .i64 x304001_1, u304002, u304003] 28 (0, 0))) ∧ Aside0 (Below w.heap.size w w'))
 case atStart => exact ⟨(0), (a0_0), (a0_1), (([] : List Int)), (([] : List Int)), (.slice none 0 0), (.slice none 0 0), rs_, H', ⟨Nat.le_refl _⟩, ⟨by (with_reducible repeat (first | apply Kd.R_alloc | apply Kd.R_drewN | apply Kd.R_drew)); exact Kd.R_mono HO306.out (fun _ hk => hk.2)⟩, ⟨by first | exact Kd.R_nil _ _ _ _ _ | exact Kd.N_nil _ _ _ _ _ | exact Kd.V_nil _ _ _ _ _ | exact Kd.Q_nil _ _ _ _ _ | exact Kd.S_nil _ _ _ _ _⟩, ⟨by first | exact Kd.R_nil _ _ _ _ _ | exact Kd.N_nil _ _ _ _ _ | exact Kd.V_nil _ _ _ _ _ | exact Kd.Q_nil _ _ _ _ _ | exact Kd.S_nil _ _ _ _ _⟩, ⟨bk_ BK300.out⟩, ⟨bk_ BK301.out⟩, ⟨bk_ BK302.out⟩, ⟨bk_ BK303.out⟩, ⟨bl4_ HB.out GE300.out GE301.out GE302.out GE303.out⟩⟩
 case round =>
  clear H'
  try clear c1
  try clear p2
  try clear c7
  try clear c8
  try clear c11
  try clear c12
  try clear c13
  try clear c14
  try clear c16
  try clear c17
  try clear hcz14_0
  try clear hcz14_1
  try clear hcz14_2
  try clear hcz14_3
  try clear hcz15_0
  try clear hcz15_1
  try clear hcz15_2
  try clear hcz15_3
  try clear hcz17_0
  try clear hcz17_1
  try clear hcz9_0
  try clear hcz9_1
  try clear hcz9_2
  try clear hcz9_3
  try clear hfz14_0
  try clear hfz14_1
  try clear hfz14_2
  try clear hfz14_3
  try clear hfz15_0
  try clear hfz15_1
  try clear hfz15_2
  try clear hfz15_3
  try clear hfz17_0
  try clear hfz17_1
  try clear hfz9_0
  try clear hfz9_1
  try clear hfz9_2
  try clear hfz9_3
  obtain ⟨x21_1, x304000_1, x304001_1, x304002_1, x304003_1, u304002, u304003, rfl, HA, HK1, HO_19, HO_304002, HO_304003, BK300, BK301, BK302, BK303, HB⟩ := hrel
  cases gk with
  | zero => exact absurd HA.out (by simp [spec_liPart.l0])
  | succ k1 =>
   have H := HA.out
   clear HA
   simp only [spec_liPart.l0] at H
   by_cases c20 : x21_1 < (t304.length : Int)
   ·rw [if_pos c20] at H
    have c20b0 : decide (x21_1 < (t304.length : Int)) = true := decide_eq_true c20
    clear c20
    by_cases c21 : 0 ≤ x21_1
    ·rw [if_pos c21] at H
     have c21b0 : decide (0 ≤ x21_1) = true := decide_eq_true c21
     clear c21
     by_cases c22 : x21_1 < (t304.length : Int)
     ·rw [if_pos c22] at H
      have c22b0 : decide (x21_1 < (t304.length : Int)) = true := decide_eq_true c22
      clear c22
      replace H := Option.bind_eq_some_iff.mp H
      obtain ⟨⟨t309, t310, t311⟩, A230, H⟩ := H
      replace H : (if t311 = true then ((spec_fiPut.f k1 x304000_1 x304001_1 x304002_1 x304003_1 false ((rd_T36 t304 x21_1).f0) ((rd_T36 t304 x21_1).f1)).bind fun bt313 => (spec_liPart.j1 k1 t304 (t304.length : Int) x21_1 a0_0 a0_1 l0_2 l0_3 bt313.1 bt313.2.1 bt313.2.2.1 bt313.2.2.2 ((rd_T36 t304 x21_1).f0) ((rd_T36 t304 x21_1).f1))) else (spec_liPart.j1 k1 t304 (t304.length : Int) x21_1 a0_0 a0_1 l0_2 l0_3 x304000_1 x304001_1 x304002_1 x304003_1 ((rd_T36 t304 x21_1).f0) ((rd_T36 t304 x21_1).f1))) = some (r1, r2, r3, r4) := H
      have A23 := Aside0.mk A230
      clear A230
      have HC24 := Aside0.mk H
      clear H
      have p307 : 0 ≤ (x21_1 : Int) := of_decide_eq_true as_
      have q307 : x21_1 < (t304.length : Int) := of_decide_eq_true as_
      obtain ⟨ad307, e307, hx307_0, hx307_1⟩ := at_T36 (Kd.R_reads' HO_19.out).2.2 x21_1 p307 q307
      cases e307
      replace p307 := eq_true p307
      replace q307 := eq_true q307
      go_upto_if 31 with (first | ((with_reducible refine gate_dst (N := 7) rfl ?_); refine boxE_ (N := 7) (cs := #[.int .i64 0, .int .i64 0]) (t := 36) ?_; intro gb308 hg w25 hbox hb; have n0_ := Aside0.mk (Kd.R_below (Kd.R_elderB (kr_ HO_19.out) gb308 (Nat.le_of_eq hg.symm)) hb); have n1_ := Aside0.mk (Kd.R_below (kr_ HO_304002.out) hb); have n2_ := Aside0.mk (Kd.R_below (kr_ HO_304003.out) hb); have n3_ := Aside0.mk (bb_ BK300.out hb); have n4_ := Aside0.mk (bb_ BK301.out hb); have n5_ := Aside0.mk (bb_ BK302.out hb); have n6_ := Aside0.mk (bb_ BK303.out hb); have n7_ := Aside0.mk (below_step (bl4_ HB.out GE300.out GE301.out GE302.out GE303.out) hb); have n8_ := Aside0.mk (hbox); have n9_ := Aside0.mk ((bs4_ hg HB.out GE300.out GE301.out GE302.out GE303.out : w.heap.size ≤ gb308)); have n10_ := Aside0.mk ((bs4_ hg HB.out GE300.out GE301.out GE302.out GE303.out : w.heap.size ≤ gb308)); have n11_ := Aside0.mk ((nl_ hg BK300.out : gb300 ≠ gb308)); have n12_ := Aside0.mk ((ng_ hg BK300.out : gb308 ≠ gb300)); have n13_ := Aside0.mk ((nl_ hg BK301.out : gb301 ≠ gb308)); have n14_ := Aside0.mk ((ng_ hg BK301.out : gb308 ≠ gb301)); have n15_ := Aside0.mk ((nl_ hg BK302.out : gb302 ≠ gb308)); have n16_ := Aside0.mk ((ng_ hg BK302.out : gb308 ≠ gb302)); have n17_ := Aside0.mk ((nl_ hg BK303.out : gb303 ≠ gb308)); have n18_ := Aside0.mk ((ng_ hg BK303.out : gb308 ≠ gb303)); clear HO_19; clear HO_304002; clear HO_304003; clear BK300; clear BK301; clear BK302; clear BK303; clear HB; have HO_19 := n0_; have HO_304002 := n1_; have HO_304003 := n2_; have BK300 := n3_; have BK301 := n4_; have BK302 := n5_; have BK303 := n6_; have HB := n7_; have BK308 := n8_; have GW308 := n9_; have GE308 := n10_; have NB300_308 := n11_; have NB308_300 := n12_; have NB301_308 := n13_; have NB308_301 := n14_; have NB302_308 := n15_; have NB308_302 := n16_; have NB303_308 := n17_; have NB308_303 := n18_; clear n0_ n1_ n2_ n3_ n4_ n5_ n6_ n7_ n8_ n9_ n10_ n11_ n12_ n13_ n14_ n15_ n16_ n17_ n18_; clear hb hbox hg; have hnb26 := NB308_300.out; have hnc26 := NB300_308.out; have hnb27 := NB308_301.out; have hnc27 := NB301_308.out; have hnb28 := NB308_302.out; have hnc28 := NB302_308.out; have hnb29 := NB308_303.out; have hnc29 := NB303_308.out; have hcz30_0 : w25.cell? ⟨gb308, 0, none⟩ = some (.int .i64 0) := (blk_cell BK308.out 0).trans rfl; have hcz30_1 : w25.cell? ⟨gb308, 1, none⟩ = some (.int .i64 0) := (blk_cell BK308.out 1).trans rfl; have hfz30_0 := blk_frozen BK308.out 0; have hfz30_1 := blk_frozen BK308.out 1; have hnb31 := NB300_301.out; have hnc31 := NB301_300.out; have hnb32 := NB300_302.out; have hnc32 := NB302_300.out; have hnb33 := NB300_303.out; have hnc33 := NB303_300.out; have hcz34_0 : w25.cell? ⟨gb300, 0, none⟩ = some (.int .i64 a0_0) := (blk_cell BK300.out 0).trans rfl; have hcz34_1 : w25.cell? ⟨gb300, 1, none⟩ = some (.int .i64 a0_1) := (blk_cell BK300.out 1).trans rfl; have hcz34_2 : w25.cell? ⟨gb300, 2, none⟩ = some (.slice A0_2 l0_2.length c0_2) := (blk_cell BK300.out 2).trans rfl; have hcz34_3 : w25.cell? ⟨gb300, 3, none⟩ = some (.slice A0_3 l0_3.length c0_3) := (blk_cell BK300.out 3).trans rfl; have hfz34_0 := blk_frozen BK300.out 0; have hfz34_1 := blk_frozen BK300.out 1; have hfz34_2 := blk_frozen BK300.out 2; have hfz34_3 := blk_frozen BK300.out 3) | ((with_reducible refine gate_callee (f := 76) rfl ?_); refine goesL_ (some 28) rfl rfl Try.func76 (by kernel_rfl) rfl #[.agg #[.int .i64 a0_0, .int .i64 a0_1, .slice A0_2 l0_2.length c0_2, .slice A0_3 l0_3.length c0_3], .agg #[.int .i64 ((rd_T36 t304 x21_1).f0), .int .i64 ((rd_T36 t304 x21_1).f1)], .int .i64 1] rfl ob_ ?_; (with_reducible refine (spec_liNext.calls k1 a0_0 a0_1 _ _ l0_2 _ _ l0_3 ((rd_T36 t304 x21_1).f0) ((rd_T36 t304 x21_1).f1) 1 t309 t310 t311 _ ?side1 ?side2 ?side3 ?side4 A23.out).mono ?_); (case side1 => exact Kd.C_below HR0_2.out (bl5_ HB.out GE300.out GE301.out GE302.out GE303.out GE308.out)); (case side2 => exact HC0_2.out); (case side3 => exact Kd.C_below HR0_3.out (bl5_ HB.out GE300.out GE301.out GE302.out GE303.out GE308.out)); (case side4 => exact HC0_3.out); rintro e w35 ⟨rfl, hb⟩; refine ⟨_, rfl, ?_⟩; have n0_ := Aside0.mk (Kd.R_below (by (with_reducible repeat (first | apply Kd.R_alloc | apply Kd.R_drewN | apply Kd.R_drew)); exact (Kd.R_mono (Kd.R_far (p := ⟨gb308, 1, none⟩) (Kd.R_far (p := ⟨gb308, 0, none⟩) (Kd.R_mono HO_19.out (fun k_ hk => (⟨hk, hk.2⟩ : _ ∧ k_ ≠ gb308))) (fun _ hk => hk.2) (.int .i64 ((rd_T36 t304 x21_1).f0))) (fun _ hk => hk.2) (.int .i64 ((rd_T36 t304 x21_1).f1))) (fun _ h_ => h_.1))) hb); have n1_ := Aside0.mk (Kd.R_below (by (with_reducible repeat (first | apply Kd.R_alloc | apply Kd.R_drewN | apply Kd.R_drew)); exact (Kd.R_mono (Kd.R_far (p := ⟨gb308, 1, none⟩) (Kd.R_far (p := ⟨gb308, 0, none⟩) (Kd.R_types HO_304002.out BK308.out (by decide)) (fun _ hk => hk.2) (.int .i64 ((rd_T36 t304 x21_1).f0))) (fun _ hk => hk.2) (.int .i64 ((rd_T36 t304 x21_1).f1))) (fun _ h_ => h_.1))) hb); have n2_ := Aside0.mk (Kd.R_below (by (with_reducible repeat (first | apply Kd.R_alloc | apply Kd.R_drewN | apply Kd.R_drew)); exact (Kd.R_mono (Kd.R_far (p := ⟨gb308, 1, none⟩) (Kd.R_far (p := ⟨gb308, 0, none⟩) (Kd.R_types HO_304003.out BK308.out (by decide)) (fun _ hk => hk.2) (.int .i64 ((rd_T36 t304 x21_1).f0))) (fun _ hk => hk.2) (.int .i64 ((rd_T36 t304 x21_1).f1))) (fun _ h_ => h_.1))) hb); have n3_ := Aside0.mk (blk_below (g := gb300) (o := .cells #[.int .i64 a0_0, .int .i64 a0_1, .slice A0_2 l0_2.length c0_2, .slice A0_3 l0_3.length c0_3] 28 (0, 0)) (bf2_ NB300_308.out NB300_308.out BK300.out) hb); have n4_ := Aside0.mk (blk_below (g := gb301) (o := .cells #[.int .i64 a1_0, .int .i64 a1_1] 36 (0, 0)) (bf2_ NB301_308.out NB301_308.out BK301.out) hb); have n5_ := Aside0.mk (blk_below (g := gb302) (o := .cells #[.int .i64 0, .int .i64 0, .slice none 0 0, .slice none 0 0] 28 (0, 0)) (bf2_ NB302_308.out NB302_308.out BK302.out) hb); have n6_ := Aside0.mk (blk_below (g := gb303) (o := .cells #[.int .i64 x304000_1, .int .i64 x304001_1, u304002, u304003] 28 (0, 0)) (bf2_ NB303_308.out NB303_308.out BK303.out) hb); have n7_ := Aside0.mk (blk_below (g := gb308) (o := .cells #[.int .i64 ((rd_T36 t304 x21_1).f0), .int .i64 ((rd_T36 t304 x21_1).f1)] 36 (0, 0)) (by (with_reducible repeat (first | refine blk_drewN ?_ _ | refine blk_drew ?_ | refine blk_alloc ?_ _)); refine blk_put (cs := #[.int .i64 ((rd_T36 t304 x21_1).f0), .int .i64 0]) ?_ 1 _ rfl; (with_reducible repeat (first | refine blk_drewN ?_ _ | refine blk_drew ?_ | refine blk_alloc ?_ _)); refine blk_put (cs := #[.int .i64 0, .int .i64 0]) ?_ 0 _ rfl; (with_reducible repeat (first | refine blk_drewN ?_ _ | refine blk_drew ?_ | refine blk_alloc ?_ _)); exact BK308.out) hb); have n8_ := Aside0.mk (below_step (bl5_ HB.out GE300.out GE301.out GE302.out GE303.out GE308.out) hb); clear HO_19; clear HO_304002; clear HO_304003; clear BK300; clear BK301; clear BK302; clear BK303; clear BK308; clear HB; have HO_19 := n0_; have HO_304002 := n1_; have HO_304003 := n2_; have BK300 := n3_; have BK301 := n4_; have BK302 := n5_; have BK303 := n6_; have BK308 := n7_; have HB := n8_; clear n0_ n1_ n2_ n3_ n4_ n5_ n6_ n7_ n8_; (try clear hb); (try clear hb2); (try clear hk); (try clear hi)) | ((with_reducible refine gate_dst (N := 8) rfl ?_); refine boxE_ (N := 8) (cs := #[.int .i64 0, .int .i64 0]) (t := 36) ?_; intro gb312 hg w36 hbox hb; have n0_ := Aside0.mk (Kd.R_below (Kd.R_elderB (kr_ HO_19.out) gb312 (Nat.le_of_eq hg.symm)) hb); have n1_ := Aside0.mk (Kd.R_below (kr_ HO_304002.out) hb); have n2_ := Aside0.mk (Kd.R_below (kr_ HO_304003.out) hb); have n3_ := Aside0.mk (bb_ BK300.out hb); have n4_ := Aside0.mk (bb_ BK301.out hb); have n5_ := Aside0.mk (bb_ BK302.out hb); have n6_ := Aside0.mk (bb_ BK303.out hb); have n7_ := Aside0.mk (bb_ BK308.out hb); have n8_ := Aside0.mk (below_step (bl5_ HB.out GE300.out GE301.out GE302.out GE303.out GE308.out) hb); have n9_ := Aside0.mk (hbox); have n10_ := Aside0.mk ((bs5_ hg HB.out GE300.out GE301.out GE302.out GE303.out GE308.out : w.heap.size ≤ gb312)); have n11_ := Aside0.mk ((bs5_ hg HB.out GE300.out GE301.out GE302.out GE303.out GE308.out : w.heap.size ≤ gb312)); have n12_ := Aside0.mk ((nl_ hg BK300.out : gb300 ≠ gb312)); have n13_ := Aside0.mk ((ng_ hg BK300.out : gb312 ≠ gb300)); have n14_ := Aside0.mk ((nl_ hg BK301.out : gb301 ≠ gb312)); have n15_ := Aside0.mk ((ng_ hg BK301.out : gb312 ≠ gb301)); have n16_ := Aside0.mk ((nl_ hg BK302.out : gb302 ≠ gb312)); have n17_ := Aside0.mk ((ng_ hg BK302.out : gb312 ≠ gb302)); have n18_ := Aside0.mk ((nl_ hg BK303.out : gb303 ≠ gb312)); have n19_ := Aside0.mk ((ng_ hg BK303.out : gb312 ≠ gb303)); have n20_ := Aside0.mk ((nl_ hg BK308.out : gb308 ≠ gb312)); have n21_ := Aside0.mk ((ng_ hg BK308.out : gb312 ≠ gb308)); clear HO_19; clear HO_304002; clear HO_304003; clear BK300; clear BK301; clear BK302; clear BK303; clear BK308; clear HB; have HO_19 := n0_; have HO_304002 := n1_; have HO_304003 := n2_; have BK300 := n3_; have BK301 := n4_; have BK302 := n5_; have BK303 := n6_; have BK308 := n7_; have HB := n8_; have BK312 := n9_; have GW312 := n10_; have GE312 := n11_; have NB300_312 := n12_; have NB312_300 := n13_; have NB301_312 := n14_; have NB312_301 := n15_; have NB302_312 := n16_; have NB312_302 := n17_; have NB303_312 := n18_; have NB312_303 := n19_; have NB308_312 := n20_; have NB312_308 := n21_; clear n0_ n1_ n2_ n3_ n4_ n5_ n6_ n7_ n8_ n9_ n10_ n11_ n12_ n13_ n14_ n15_ n16_ n17_ n18_ n19_ n20_ n21_; clear hb hbox hg; have hnb37 := NB312_300.out; have hnc37 := NB300_312.out; have hnb38 := NB312_301.out; have hnc38 := NB301_312.out; have hnb39 := NB312_302.out; have hnc39 := NB302_312.out; have hnb40 := NB312_303.out; have hnc40 := NB303_312.out; have hnb41 := NB312_308.out; have hnc41 := NB308_312.out; have hcz42_0 : w36.cell? ⟨gb312, 0, none⟩ = some (.int .i64 0) := (blk_cell BK312.out 0).trans rfl; have hcz42_1 : w36.cell? ⟨gb312, 1, none⟩ = some (.int .i64 0) := (blk_cell BK312.out 1).trans rfl; have hfz42_0 := blk_frozen BK312.out 0; have hfz42_1 := blk_frozen BK312.out 1))
      (try simp only [Act.put, List.setIfInBounds_toArray, List.set_cons_zero, List.set_cons_succ])
      go_cut [] (fun wc => ∃ (kq : Nat) (x304000_23 : Int) (x304001_23 : Int) (x304002_23 : List Int) (x304003_23 : List Int) (u304002 : Value) (u304003 : Value), Aside0 (spec_liPart.j1 kq t304 (t304.length : Int) x21_1 a0_0 a0_1 l0_2 l0_3 x304000_23 x304001_23 x304002_23 x304003_23 ((rd_T36 t304 x21_1).f0) ((rd_T36 t304 x21_1).f1) = some (r1, r2, r3, r4)) ∧ Aside0 (kq ≤ k1) ∧ Aside0 (Kd.R k36 36 wc w.heap.size (fun k_ => k_ ≠ gb301 ∧ k_ ≠ gb308 ∧ k_ ≠ gb312) (.slice (some ad307) t304.length co19) t304) ∧ Aside0 (Kd.R (Kd.int .i64) 3 wc w.heap.size (fun k_ => some k_ ≠ (u304003 : Value).ownBlock) u304002 x304002_23) ∧ Aside0 (Kd.R (Kd.int .i64) 3 wc w.heap.size (fun k_ => some k_ ≠ (u304002 : Value).ownBlock) u304003 x304003_23) ∧ Aside0 (wc.heap[gb300]? = some (.cells #[.int .i64 a0_0, .int .i64 a0_1, (.slice A0_2 l0_2.length c0_2), (.slice A0_3 l0_3.length c0_3)] 28 (0, 0))) ∧ Aside0 (wc.heap[gb301]? = some (.cells #[.int .i64 a1_0, .int .i64 a1_1] 36 (0, 0))) ∧ Aside0 (wc.heap[gb302]? = some (.cells #[.int .i64 0, .int .i64 0, (.slice none 0 0), (.slice none 0 0)] 28 (0, 0))) ∧ Aside0 (wc.heap[gb303]? = some (.cells #[.int .i64 x304000_23, .int .i64 x304001_23, u304002, u304003] 28 (0, 0))) ∧ Aside0 (wc.heap[gb308]? = some (.cells #[.int .i64 ((rd_T36 t304 x21_1).f0), .int .i64 ((rd_T36 t304 x21_1).f1)] 36 (0, 0))) ∧ Aside0 (wc.heap[gb312]? = some (.cells #[.int .i64 t309, .int .i64 t310] 36 (0, 0))) ∧ Aside0 (Below w.heap.size w wc))
      case first =>
       have H := HC24.out
       clear HC24
       by_cases c43 : t311 = true
       ·subst c43
        have H1 : ((spec_fiPut.f k1 x304000_1 x304001_1 x304002_1 x304003_1 false ((rd_T36 t304 x21_1).f0) ((rd_T36 t304 x21_1).f1)).bind fun bt313 => (spec_liPart.j1 k1 t304 (t304.length : Int) x21_1 a0_0 a0_1 l0_2 l0_3 bt313.1 bt313.2.1 bt313.2.2.1 bt313.2.2.2 ((rd_T36 t304 x21_1).f0) ((rd_T36 t304 x21_1).f1))) = some (r1, r2, r3, r4) := by rw [if_pos rfl] at H; exact H
        clear H
        have H := H1
        clear H1
        replace H := Option.bind_eq_some_iff.mp H
        obtain ⟨⟨t313, t314, t315, t318⟩, A440, H⟩ := H
        replace H : (spec_liPart.j1 k1 t304 (t304.length : Int) x21_1 a0_0 a0_1 l0_2 l0_3 t313 t314 t315 t318 ((rd_T36 t304 x21_1).f0) ((rd_T36 t304 x21_1).f1)) = some (r1, r2, r3, r4) := H
        have A44 := Aside0.mk A440
        clear A440
        have H' := Aside0.mk H
        clear H
        have hnb45 := NB303_300.out
        have hnc45 := NB300_303.out
        have hnb46 := NB303_301.out
        have hnc46 := NB301_303.out
        have hnb47 := NB303_302.out
        have hnc47 := NB302_303.out
        have hnb48 := NB303_308.out
        have hnc48 := NB308_303.out
        have hnb49 := NB303_312.out
        have hnc49 := NB312_303.out
        have hcz50_0 : w36.cell? ⟨gb303, 0, none⟩ = some (.int .i64 x304000_1) := (blk_cell BK303.out 0).trans rfl
        have hcz50_1 : w36.cell? ⟨gb303, 1, none⟩ = some (.int .i64 x304001_1) := (blk_cell BK303.out 1).trans rfl
        have hcz50_2 : w36.cell? ⟨gb303, 2, none⟩ = some (u304002) := (blk_cell BK303.out 2).trans rfl
        have hcz50_3 : w36.cell? ⟨gb303, 3, none⟩ = some (u304003) := (blk_cell BK303.out 3).trans rfl
        have hfz50_0 := blk_frozen BK303.out 0
        have hfz50_1 := blk_frozen BK303.out 1
        have hfz50_2 := blk_frozen BK303.out 2
        have hfz50_3 := blk_frozen BK303.out 3
        have hnb51 := NB308_300.out
        have hnc51 := NB300_308.out
        have hnb52 := NB308_301.out
        have hnc52 := NB301_308.out
        have hnb53 := NB308_302.out
        have hnc53 := NB302_308.out
        have hnb54 := NB308_312.out
        have hnc54 := NB312_308.out
        have hcz55_0 : w36.cell? ⟨gb308, 0, none⟩ = some (.int .i64 ((rd_T36 t304 x21_1).f0)) := (blk_cell BK308.out 0).trans rfl
        have hcz55_1 : w36.cell? ⟨gb308, 1, none⟩ = some (.int .i64 ((rd_T36 t304 x21_1).f1)) := (blk_cell BK308.out 1).trans rfl
        have hfz55_0 := blk_frozen BK308.out 0
        have hfz55_1 := blk_frozen BK308.out 1
        obtain ⟨Ao56, co56, eo56⟩ := Kd.R_slice HO_304002.out
        subst eo56
        obtain ⟨Ao57, co57, eo57⟩ := Kd.R_slice HO_304003.out
        subst eo57
        go_wp2_with (first | ((with_reducible refine gate_callee (f := 152) rfl ?_); refine goesL_ (some 37) rfl rfl Try.func152 (by kernel_rfl) rfl #[.agg #[.int .i64 x304000_1, .int .i64 x304001_1, .slice Ao56 x304002_1.length co56, .slice Ao57 x304003_1.length co57], .bool false, .int .i64 ((rd_T36 t304 x21_1).f0), .int .i64 ((rd_T36 t304 x21_1).f1)] rfl ob_ ?_; (with_reducible refine (spec_fiPut.calls k1 x304000_1 x304001_1 _ _ x304002_1 _ _ x304003_1 false ((rd_T36 t304 x21_1).f0) ((rd_T36 t304 x21_1).f1) t313 t314 t315 t318 _ ?side1 ?side2 ?side3 ?side4 A44.out).mono ?_); (case side1 => refine (Kd.R_reads' (e := 3) (base := w.heap.size) (ok := fun k_ => some k_ ≠ (.slice Ao57 x304003_1.length co57 : Value).ownBlock) (n := x304002_1.length) (c := co56) ?_).2.2; exact (by (with_reducible repeat (first | apply Kd.R_alloc | apply Kd.R_drewN | apply Kd.R_drew)); exact (Kd.R_mono (Kd.R_far (p := ⟨gb312, 1, none⟩) (Kd.R_far (p := ⟨gb312, 0, none⟩) (Kd.R_types HO_304002.out BK312.out (by decide)) (fun _ hk => hk.2) (.int .i64 t309)) (fun _ hk => hk.2) (.int .i64 t310)) (fun _ h_ => h_.1)))); (case side2 => exact (Kd.R_reads' HO_304002.out).2.1); (case side3 => refine (Kd.R_reads' (e := 3) (base := w.heap.size) (ok := fun k_ => some k_ ≠ (.slice Ao56 x304002_1.length co56 : Value).ownBlock) (n := x304003_1.length) (c := co57) ?_).2.2; exact (by (with_reducible repeat (first | apply Kd.R_alloc | apply Kd.R_drewN | apply Kd.R_drew)); exact (Kd.R_mono (Kd.R_far (p := ⟨gb312, 1, none⟩) (Kd.R_far (p := ⟨gb312, 0, none⟩) (Kd.R_types HO_304003.out BK312.out (by decide)) (fun _ hk => hk.2) (.int .i64 t309)) (fun _ hk => hk.2) (.int .i64 t310)) (fun _ h_ => h_.1)))); (case side4 => exact (Kd.R_reads' HO_304003.out).2.1); rintro e w58 ⟨v316, v319, rfl, ho0, ho1, hb⟩; refine ⟨_, rfl, ?_⟩; have n0_ := Aside0.mk (Kd.R_below (by (with_reducible repeat (first | apply Kd.R_alloc | apply Kd.R_drewN | apply Kd.R_drew)); exact (Kd.R_mono (Kd.R_far (p := ⟨gb312, 1, none⟩) (Kd.R_far (p := ⟨gb312, 0, none⟩) (Kd.R_mono HO_19.out (fun k_ hk => (⟨hk, hk.2⟩ : _ ∧ k_ ≠ gb312))) (fun _ hk => hk.2) (.int .i64 t309)) (fun _ hk => hk.2) (.int .i64 t310)) (fun _ h_ => h_.1))) hb); have n1_ := Aside0.mk (Kd.R_mono (Kd.R_told (Kd.R_told (Kd.R_old (by (with_reducible repeat (first | apply Kd.R_alloc | apply Kd.R_drewN | apply Kd.R_drew)); exact (Kd.R_mono (Kd.R_far (p := ⟨gb312, 1, none⟩) (Kd.R_far (p := ⟨gb312, 0, none⟩) (Kd.R_types HO_304002.out BK312.out (by decide)) (fun _ hk => hk.2) (.int .i64 t309)) (fun _ hk => hk.2) (.int .i64 t310)) (fun _ h_ => h_.1))) hb) (Kd.R_base ho0)) (Kd.R_base ho1)) (fun _ h_ => h_.1)); have n2_ := Aside0.mk (Kd.R_mono (Kd.R_told (Kd.R_told (Kd.R_old (by (with_reducible repeat (first | apply Kd.R_alloc | apply Kd.R_drewN | apply Kd.R_drew)); exact (Kd.R_mono (Kd.R_far (p := ⟨gb312, 1, none⟩) (Kd.R_far (p := ⟨gb312, 0, none⟩) (Kd.R_types HO_304003.out BK312.out (by decide)) (fun _ hk => hk.2) (.int .i64 t309)) (fun _ hk => hk.2) (.int .i64 t310)) (fun _ h_ => h_.1))) hb) (Kd.R_base ho0)) (Kd.R_base ho1)) (fun _ h_ => h_.1)); have n3_ := Aside0.mk (Kd.R_lower (Kd.R_new' (Kd.R_new' ho0 (Kd.R_lt (by (with_reducible repeat (first | apply Kd.R_alloc | apply Kd.R_drewN | apply Kd.R_drew)); exact (Kd.R_mono (Kd.R_far (p := ⟨gb312, 1, none⟩) (Kd.R_far (p := ⟨gb312, 0, none⟩) (Kd.R_types HO_304002.out BK312.out (by decide)) (fun _ hk => hk.2) (.int .i64 t309)) (fun _ hk => hk.2) (.int .i64 t310)) (fun _ h_ => h_.1))))) (Kd.R_lt (by (with_reducible repeat (first | apply Kd.R_alloc | apply Kd.R_drewN | apply Kd.R_drew)); exact (Kd.R_mono (Kd.R_far (p := ⟨gb312, 1, none⟩) (Kd.R_far (p := ⟨gb312, 0, none⟩) (Kd.R_types HO_304003.out BK312.out (by decide)) (fun _ hk => hk.2) (.int .i64 t309)) (fun _ hk => hk.2) (.int .i64 t310)) (fun _ h_ => h_.1))))) (below_size (bl6_ HB.out GE300.out GE301.out GE302.out GE303.out GE308.out GE312.out))); have n4_ := Aside0.mk (Kd.R_lower (Kd.R_new' (Kd.R_new' ho1 (Kd.R_lt (by (with_reducible repeat (first | apply Kd.R_alloc | apply Kd.R_drewN | apply Kd.R_drew)); exact (Kd.R_mono (Kd.R_far (p := ⟨gb312, 1, none⟩) (Kd.R_far (p := ⟨gb312, 0, none⟩) (Kd.R_types HO_304002.out BK312.out (by decide)) (fun _ hk => hk.2) (.int .i64 t309)) (fun _ hk => hk.2) (.int .i64 t310)) (fun _ h_ => h_.1))))) (Kd.R_lt (by (with_reducible repeat (first | apply Kd.R_alloc | apply Kd.R_drewN | apply Kd.R_drew)); exact (Kd.R_mono (Kd.R_far (p := ⟨gb312, 1, none⟩) (Kd.R_far (p := ⟨gb312, 0, none⟩) (Kd.R_types HO_304003.out BK312.out (by decide)) (fun _ hk => hk.2) (.int .i64 t309)) (fun _ hk => hk.2) (.int .i64 t310)) (fun _ h_ => h_.1))))) (below_size (bl6_ HB.out GE300.out GE301.out GE302.out GE303.out GE308.out GE312.out))); have n5_ := Aside0.mk (blk_below (g := gb300) (o := .cells #[.int .i64 a0_0, .int .i64 a0_1, .slice A0_2 l0_2.length c0_2, .slice A0_3 l0_3.length c0_3] 28 (0, 0)) (bf2_ NB300_312.out NB300_312.out BK300.out) hb); have n6_ := Aside0.mk (blk_below (g := gb301) (o := .cells #[.int .i64 a1_0, .int .i64 a1_1] 36 (0, 0)) (bf2_ NB301_312.out NB301_312.out BK301.out) hb); have n7_ := Aside0.mk (blk_below (g := gb302) (o := .cells #[.int .i64 0, .int .i64 0, .slice none 0 0, .slice none 0 0] 28 (0, 0)) (bf2_ NB302_312.out NB302_312.out BK302.out) hb); have n8_ := Aside0.mk (blk_below (g := gb303) (o := .cells #[.int .i64 x304000_1, .int .i64 x304001_1, .slice Ao56 x304002_1.length co56, .slice Ao57 x304003_1.length co57] 28 (0, 0)) (bf2_ NB303_312.out NB303_312.out BK303.out) hb); have n9_ := Aside0.mk (blk_below (g := gb308) (o := .cells #[.int .i64 ((rd_T36 t304 x21_1).f0), .int .i64 ((rd_T36 t304 x21_1).f1)] 36 (0, 0)) (bf2_ NB308_312.out NB308_312.out BK308.out) hb); have n10_ := Aside0.mk (blk_below (g := gb312) (o := .cells #[.int .i64 t309, .int .i64 t310] 36 (0, 0)) (by (with_reducible repeat (first | refine blk_drewN ?_ _ | refine blk_drew ?_ | refine blk_alloc ?_ _)); refine blk_put (cs := #[.int .i64 t309, .int .i64 0]) ?_ 1 _ rfl; (with_reducible repeat (first | refine blk_drewN ?_ _ | refine blk_drew ?_ | refine blk_alloc ?_ _)); refine blk_put (cs := #[.int .i64 0, .int .i64 0]) ?_ 0 _ rfl; (with_reducible repeat (first | refine blk_drewN ?_ _ | refine blk_drew ?_ | refine blk_alloc ?_ _)); exact BK312.out) hb); have n11_ := Aside0.mk (below_step (bl6_ HB.out GE300.out GE301.out GE302.out GE303.out GE308.out GE312.out) hb); clear HO_19; clear HO_304002; clear HO_304003; clear BK300; clear BK301; clear BK302; clear BK303; clear BK308; clear BK312; clear HB; have HO_19 := n0_; have HO_304002 := n1_; have HO_304003 := n2_; have HO317 := n3_; have HO320 := n4_; have BK300 := n5_; have BK301 := n6_; have BK302 := n7_; have BK303 := n8_; have BK308 := n9_; have BK312 := n10_; have HB := n11_; clear n0_ n1_ n2_ n3_ n4_ n5_ n6_ n7_ n8_ n9_ n10_ n11_; (try clear hb); (try clear hb2); (try clear hk); (try clear hi); (try clear ho0); (try clear ho1); have hcz59_0 : w58.cell? ⟨gb303, 0, none⟩ = some (.int .i64 x304000_1) := (blk_cell BK303.out 0).trans rfl; have hcz59_1 : w58.cell? ⟨gb303, 1, none⟩ = some (.int .i64 x304001_1) := (blk_cell BK303.out 1).trans rfl; have hcz59_2 : w58.cell? ⟨gb303, 2, none⟩ = some (.slice Ao56 x304002_1.length co56) := (blk_cell BK303.out 2).trans rfl; have hcz59_3 : w58.cell? ⟨gb303, 3, none⟩ = some (.slice Ao57 x304003_1.length co57) := (blk_cell BK303.out 3).trans rfl; have hfz59_0 := blk_frozen BK303.out 0; have hfz59_1 := blk_frozen BK303.out 1; have hfz59_2 := blk_frozen BK303.out 2; have hfz59_3 := blk_frozen BK303.out 3; obtain ⟨Ao60, co60, eo60⟩ := Kd.R_slice HO317.out; subst eo60; obtain ⟨Ao61, co61, eo61⟩ := Kd.R_slice HO320.out; subst eo61))
        go_meet
        case rel => exact ⟨_, (t313), (t314), (t315), (t318), (.slice Ao60 t315.length co60), (.slice Ao61 t318.length co61), H', ⟨by have := HK1.out; first | omega | exact Nat.le_refl _⟩, ⟨by (with_reducible repeat (first | apply Kd.R_alloc | apply Kd.R_drewN | apply Kd.R_drew)); exact Kd.R_mono (Kd.R_far (p := ⟨gb303, 3, none⟩) (Kd.R_far (p := ⟨gb303, 2, none⟩) (Kd.R_far (p := ⟨gb303, 1, none⟩) (Kd.R_far (p := ⟨gb303, 0, none⟩) (Kd.R_types HO_19.out BK303.out (by decide)) (fun _ hk => hk.2) (.int .i64 t313)) (fun _ hk => hk.2) (.int .i64 t314)) (fun _ hk => hk.2) (.slice Ao60 t315.length co60)) (fun _ hk => hk.2) (.slice Ao61 t318.length co61)) (fun _ hk => ⟨hk.1.1.1, ⟨hk.1.1.2, hk.1.2⟩⟩)⟩, ⟨by (with_reducible repeat (first | apply Kd.R_alloc | apply Kd.R_drewN | apply Kd.R_drew)); exact Kd.R_mono (Kd.R_far (p := ⟨gb303, 3, none⟩) (Kd.R_far (p := ⟨gb303, 2, none⟩) (Kd.R_far (p := ⟨gb303, 1, none⟩) (Kd.R_far (p := ⟨gb303, 0, none⟩) (Kd.R_types HO317.out BK303.out (by decide)) (fun _ hk => hk.2) (.int .i64 t313)) (fun _ hk => hk.2) (.int .i64 t314)) (fun _ hk => hk.2) (.slice Ao60 t315.length co60)) (fun _ hk => hk.2) (.slice Ao61 t318.length co61)) (fun _ hk => hk.1.1.1)⟩, ⟨by (with_reducible repeat (first | apply Kd.R_alloc | apply Kd.R_drewN | apply Kd.R_drew)); exact Kd.R_mono (Kd.R_far (p := ⟨gb303, 3, none⟩) (Kd.R_far (p := ⟨gb303, 2, none⟩) (Kd.R_far (p := ⟨gb303, 1, none⟩) (Kd.R_far (p := ⟨gb303, 0, none⟩) (Kd.R_types HO320.out BK303.out (by decide)) (fun _ hk => hk.2) (.int .i64 t313)) (fun _ hk => hk.2) (.int .i64 t314)) (fun _ hk => hk.2) (.slice Ao60 t315.length co60)) (fun _ hk => hk.2) (.slice Ao61 t318.length co61)) (fun _ hk => hk.1.1.1)⟩, ⟨bf4_ NB300_303.out NB300_303.out NB300_303.out NB300_303.out BK300.out⟩, ⟨bf4_ NB301_303.out NB301_303.out NB301_303.out NB301_303.out BK301.out⟩, ⟨bf4_ NB302_303.out NB302_303.out NB302_303.out NB302_303.out BK302.out⟩, ⟨by (with_reducible repeat (first | refine blk_drewN ?_ _ | refine blk_drew ?_ | refine blk_alloc ?_ _)); refine blk_put (cs := #[.int .i64 t313, .int .i64 t314, .slice Ao60 t315.length co60, .slice Ao57 x304003_1.length co57]) ?_ 3 _ rfl; (with_reducible repeat (first | refine blk_drewN ?_ _ | refine blk_drew ?_ | refine blk_alloc ?_ _)); refine blk_put (cs := #[.int .i64 t313, .int .i64 t314, .slice Ao56 x304002_1.length co56, .slice Ao57 x304003_1.length co57]) ?_ 2 _ rfl; (with_reducible repeat (first | refine blk_drewN ?_ _ | refine blk_drew ?_ | refine blk_alloc ?_ _)); refine blk_put (cs := #[.int .i64 t313, .int .i64 x304001_1, .slice Ao56 x304002_1.length co56, .slice Ao57 x304003_1.length co57]) ?_ 1 _ rfl; (with_reducible repeat (first | refine blk_drewN ?_ _ | refine blk_drew ?_ | refine blk_alloc ?_ _)); refine blk_put (cs := #[.int .i64 x304000_1, .int .i64 x304001_1, .slice Ao56 x304002_1.length co56, .slice Ao57 x304003_1.length co57]) ?_ 0 _ rfl; (with_reducible repeat (first | refine blk_drewN ?_ _ | refine blk_drew ?_ | refine blk_alloc ?_ _)); exact BK303.out⟩, ⟨bf4_ NB308_303.out NB308_303.out NB308_303.out NB308_303.out BK308.out⟩, ⟨bf4_ NB312_303.out NB312_303.out NB312_303.out NB312_303.out BK312.out⟩, ⟨bl6_ HB.out GE300.out GE301.out GE302.out GE303.out GE308.out GE312.out⟩⟩
       ·replace c43 := Bool.eq_false_iff.mpr c43
        subst c43
        have H1 : (spec_liPart.j1 k1 t304 (t304.length : Int) x21_1 a0_0 a0_1 l0_2 l0_3 x304000_1 x304001_1 x304002_1 x304003_1 ((rd_T36 t304 x21_1).f0) ((rd_T36 t304 x21_1).f1)) = some (r1, r2, r3, r4) := by rw [if_neg (show ¬ (false = true) by decide)] at H; exact H
        clear H
        have H := H1
        clear H1
        have H' := Aside0.mk H
        clear H
        go_wp2
        go_meet
        case rel => exact ⟨_, (x304000_1), (x304001_1), (x304002_1), (x304003_1), (u304002), (u304003), H', ⟨by have := HK1.out; first | omega | exact Nat.le_refl _⟩, ⟨by (with_reducible repeat (first | apply Kd.R_alloc | apply Kd.R_drewN | apply Kd.R_drew)); exact Kd.R_mono (Kd.R_far (p := ⟨gb312, 1, none⟩) (Kd.R_far (p := ⟨gb312, 0, none⟩) (Kd.R_mono HO_19.out (fun k_ hk => (⟨hk, hk.2⟩ : _ ∧ k_ ≠ gb312))) (fun _ hk => hk.2) (.int .i64 t309)) (fun _ hk => hk.2) (.int .i64 t310)) (fun _ hk => ⟨hk.1.1.1, ⟨hk.1.1.2, hk.1.2⟩⟩)⟩, ⟨by (with_reducible repeat (first | apply Kd.R_alloc | apply Kd.R_drewN | apply Kd.R_drew)); exact Kd.R_mono (Kd.R_far (p := ⟨gb312, 1, none⟩) (Kd.R_far (p := ⟨gb312, 0, none⟩) (Kd.R_types HO_304002.out BK312.out (by decide)) (fun _ hk => hk.2) (.int .i64 t309)) (fun _ hk => hk.2) (.int .i64 t310)) (fun _ hk => hk.1)⟩, ⟨by (with_reducible repeat (first | apply Kd.R_alloc | apply Kd.R_drewN | apply Kd.R_drew)); exact Kd.R_mono (Kd.R_far (p := ⟨gb312, 1, none⟩) (Kd.R_far (p := ⟨gb312, 0, none⟩) (Kd.R_types HO_304003.out BK312.out (by decide)) (fun _ hk => hk.2) (.int .i64 t309)) (fun _ hk => hk.2) (.int .i64 t310)) (fun _ hk => hk.1)⟩, ⟨bf2_ NB300_312.out NB300_312.out BK300.out⟩, ⟨bf2_ NB301_312.out NB301_312.out BK301.out⟩, ⟨bf2_ NB302_312.out NB302_312.out BK302.out⟩, ⟨bf2_ NB303_312.out NB303_312.out BK303.out⟩, ⟨bf2_ NB308_312.out NB308_312.out BK308.out⟩, ⟨by (with_reducible repeat (first | refine blk_drewN ?_ _ | refine blk_drew ?_ | refine blk_alloc ?_ _)); refine blk_put (cs := #[.int .i64 t309, .int .i64 0]) ?_ 1 _ rfl; (with_reducible repeat (first | refine blk_drewN ?_ _ | refine blk_drew ?_ | refine blk_alloc ?_ _)); refine blk_put (cs := #[.int .i64 0, .int .i64 0]) ?_ 0 _ rfl; (with_reducible repeat (first | refine blk_drewN ?_ _ | refine blk_drew ?_ | refine blk_alloc ?_ _)); exact BK312.out⟩, ⟨bl6_ HB.out GE300.out GE301.out GE302.out GE303.out GE308.out GE312.out⟩⟩
      case rest =>
       clear HC24
       try clear c1
       try clear c2
       try clear p2
       try clear c3
       try clear p3
       try clear q3
       try clear hx3
       try clear c4
       try clear c5
       try clear c7
       try clear c8
       try clear c11
       try clear c12
       try clear c13
       try clear c14
       try clear c15
       try clear c16
       try clear c17
       try clear c20
       try clear c20b0
       try clear c21
       try clear c21b0
       try clear c22
       try clear c22b0
       try clear c26
       try clear c27
       try clear c28
       try clear c29
       try clear p30
       try clear q30
       try clear hx30
       try clear c31
       try clear c32
       try clear c33
       try clear c37
       try clear c38
       try clear c39
       try clear c40
       try clear c41
       try clear c43
       try clear c45
       try clear c46
       try clear c47
       try clear c48
       try clear c49
       try clear c51
       try clear c52
       try clear c53
       try clear c54
       try clear hcz14_0
       try clear hcz14_1
       try clear hcz14_2
       try clear hcz14_3
       try clear hcz15_0
       try clear hcz15_1
       try clear hcz15_2
       try clear hcz15_3
       try clear hcz17_0
       try clear hcz17_1
       try clear hcz30_0
       try clear hcz30_1
       try clear hcz34_0
       try clear hcz34_1
       try clear hcz34_2
       try clear hcz34_3
       try clear hcz42_0
       try clear hcz42_1
       try clear hcz50_0
       try clear hcz50_1
       try clear hcz50_2
       try clear hcz50_3
       try clear hcz55_0
       try clear hcz55_1
       try clear hcz59_0
       try clear hcz59_1
       try clear hcz59_2
       try clear hcz59_3
       try clear hcz9_0
       try clear hcz9_1
       try clear hcz9_2
       try clear hcz9_3
       try clear hfz14_0
       try clear hfz14_1
       try clear hfz14_2
       try clear hfz14_3
       try clear hfz15_0
       try clear hfz15_1
       try clear hfz15_2
       try clear hfz15_3
       try clear hfz17_0
       try clear hfz17_1
       try clear hfz30_0
       try clear hfz30_1
       try clear hfz34_0
       try clear hfz34_1
       try clear hfz34_2
       try clear hfz34_3
       try clear hfz42_0
       try clear hfz42_1
       try clear hfz50_0
       try clear hfz50_1
       try clear hfz50_2
       try clear hfz50_3
       try clear hfz55_0
       try clear hfz55_1
       try clear hfz59_0
       try clear hfz59_1
       try clear hfz59_2
       try clear hfz59_3
       try clear hfz9_0
       try clear hfz9_1
       try clear hfz9_2
       try clear hfz9_3
       try clear hx307_0
       try clear hx307_1
       try clear p2
       try clear p307
       try clear q307
       obtain ⟨kq, x304000_23, x304001_23, x304002_23, x304003_23, u304002, u304003, HA, HJ23, HO_19, HO_304002, HO_304003, BK300, BK301, BK302, BK303, BK308, BK312, HB⟩ := hcut
       cases kq with
       | zero => exact absurd HA.out (by simp [spec_liPart.j1])
       | succ kj23 =>
        have H := HA.out
        clear HA
        simp only [spec_liPart.j1] at H
        replace H := Option.bind_eq_some_iff.mp H
        obtain ⟨⟨t321, t322, t323⟩, A620, H⟩ := H
        replace H : (if t323 = true then ((spec_fiPut.f kj23 x304000_23 x304001_23 x304002_23 x304003_23 true ((rd_T36 t304 x21_1).f0) ((rd_T36 t304 x21_1).f1)).bind fun bt325 => (spec_liPart.l0 kj23 t304 (t304.length : Int) (wrap64 (x21_1 + 1)) a0_0 a0_1 l0_2 l0_3 bt325.1 bt325.2.1 bt325.2.2.1 bt325.2.2.2)) else (spec_liPart.l0 kj23 t304 (t304.length : Int) (wrap64 (x21_1 + 1)) a0_0 a0_1 l0_2 l0_3 x304000_23 x304001_23 x304002_23 x304003_23)) = some (r1, r2, r3, r4) := H
        have A62 := Aside0.mk A620
        clear A620
        by_cases c63 : t323 = true
        ·subst c63
         have H1 : ((spec_fiPut.f kj23 x304000_23 x304001_23 x304002_23 x304003_23 true ((rd_T36 t304 x21_1).f0) ((rd_T36 t304 x21_1).f1)).bind fun bt325 => (spec_liPart.l0 kj23 t304 (t304.length : Int) (wrap64 (x21_1 + 1)) a0_0 a0_1 l0_2 l0_3 bt325.1 bt325.2.1 bt325.2.2.1 bt325.2.2.2)) = some (r1, r2, r3, r4) := by rw [if_pos rfl] at H; exact H
         clear H
         have H := H1
         clear H1
         replace H := Option.bind_eq_some_iff.mp H
         obtain ⟨⟨t325, t326, t327, t330⟩, A640, H⟩ := H
         replace H : (spec_liPart.l0 kj23 t304 (t304.length : Int) (wrap64 (x21_1 + 1)) a0_0 a0_1 l0_2 l0_3 t325 t326 t327 t330) = some (r1, r2, r3, r4) := H
         have A64 := Aside0.mk A640
         clear A640
         have H' := Aside0.mk H
         clear H
         have hnb65 := NB300_301.out
         have hnc65 := NB301_300.out
         have hnb66 := NB300_302.out
         have hnc66 := NB302_300.out
         have hnb67 := NB300_303.out
         have hnc67 := NB303_300.out
         have hnb68 := NB300_308.out
         have hnc68 := NB308_300.out
         have hnb69 := NB300_312.out
         have hnc69 := NB312_300.out
         have hcz70_0 : wc.cell? ⟨gb300, 0, none⟩ = some (.int .i64 a0_0) := (blk_cell BK300.out 0).trans rfl
         have hcz70_1 : wc.cell? ⟨gb300, 1, none⟩ = some (.int .i64 a0_1) := (blk_cell BK300.out 1).trans rfl
         have hcz70_2 : wc.cell? ⟨gb300, 2, none⟩ = some (.slice A0_2 l0_2.length c0_2) := (blk_cell BK300.out 2).trans rfl
         have hcz70_3 : wc.cell? ⟨gb300, 3, none⟩ = some (.slice A0_3 l0_3.length c0_3) := (blk_cell BK300.out 3).trans rfl
         have hfz70_0 := blk_frozen BK300.out 0
         have hfz70_1 := blk_frozen BK300.out 1
         have hfz70_2 := blk_frozen BK300.out 2
         have hfz70_3 := blk_frozen BK300.out 3
         have hnb71 := NB308_301.out
         have hnc71 := NB301_308.out
         have hnb72 := NB308_302.out
         have hnc72 := NB302_308.out
         have hnb73 := NB308_303.out
         have hnc73 := NB303_308.out
         have hnb74 := NB308_312.out
         have hnc74 := NB312_308.out
         have hcz75_0 : wc.cell? ⟨gb308, 0, none⟩ = some (.int .i64 ((rd_T36 t304 x21_1).f0)) := (blk_cell BK308.out 0).trans rfl
         have hcz75_1 : wc.cell? ⟨gb308, 1, none⟩ = some (.int .i64 ((rd_T36 t304 x21_1).f1)) := (blk_cell BK308.out 1).trans rfl
         have hfz75_0 := blk_frozen BK308.out 0
         have hfz75_1 := blk_frozen BK308.out 1
         go_wp2_with (first | ((with_reducible refine gate_callee (f := 76) rfl ?_); refine goesL_ (some 41) rfl rfl Try.func76 (by kernel_rfl) rfl #[.agg #[.int .i64 a0_0, .int .i64 a0_1, .slice A0_2 l0_2.length c0_2, .slice A0_3 l0_3.length c0_3], .agg #[.int .i64 ((rd_T36 t304 x21_1).f0), .int .i64 ((rd_T36 t304 x21_1).f1)], .int .i64 2] rfl ob_ ?_; (with_reducible refine (spec_liNext.calls kj23 a0_0 a0_1 _ _ l0_2 _ _ l0_3 ((rd_T36 t304 x21_1).f0) ((rd_T36 t304 x21_1).f1) 2 t321 t322 true _ ?side1 ?side2 ?side3 ?side4 A62.out).mono ?_); (case side1 => exact kc_ (Kd.C_below HR0_2.out HB.out)); (case side2 => exact HC0_2.out); (case side3 => exact kc_ (Kd.C_below HR0_3.out HB.out)); (case side4 => exact HC0_3.out); rintro e w76 ⟨rfl, hb⟩; refine ⟨_, rfl, ?_⟩; have n0_ := Aside0.mk (Kd.R_below (kr_ HO_19.out) hb); have n1_ := Aside0.mk (Kd.R_below (kr_ HO_304002.out) hb); have n2_ := Aside0.mk (Kd.R_below (kr_ HO_304003.out) hb); have n3_ := Aside0.mk (bb_ BK300.out hb); have n4_ := Aside0.mk (bb_ BK301.out hb); have n5_ := Aside0.mk (bb_ BK302.out hb); have n6_ := Aside0.mk (bb_ BK303.out hb); have n7_ := Aside0.mk (bb_ BK308.out hb); have n8_ := Aside0.mk (bb_ BK312.out hb); have n9_ := Aside0.mk (below_step (bl6_ HB.out GE300.out GE301.out GE302.out GE303.out GE308.out GE312.out) hb); clear HO_19; clear HO_304002; clear HO_304003; clear BK300; clear BK301; clear BK302; clear BK303; clear BK308; clear BK312; clear HB; have HO_19 := n0_; have HO_304002 := n1_; have HO_304003 := n2_; have BK300 := n3_; have BK301 := n4_; have BK302 := n5_; have BK303 := n6_; have BK308 := n7_; have BK312 := n8_; have HB := n9_; clear n0_ n1_ n2_ n3_ n4_ n5_ n6_ n7_ n8_ n9_; (try clear hb); (try clear hb2); (try clear hk); (try clear hi)) | ((with_reducible refine gate_dst (N := 10) rfl ?_); refine boxE_ (N := 10) (cs := #[.int .i64 0, .int .i64 0]) (t := 36) ?_; intro gb324 hg w77 hbox hb; have n0_ := Aside0.mk (Kd.R_below (Kd.R_elderB (kr_ HO_19.out) gb324 (Nat.le_of_eq hg.symm)) hb); have n1_ := Aside0.mk (Kd.R_below (kr_ HO_304002.out) hb); have n2_ := Aside0.mk (Kd.R_below (kr_ HO_304003.out) hb); have n3_ := Aside0.mk (bb_ BK300.out hb); have n4_ := Aside0.mk (bb_ BK301.out hb); have n5_ := Aside0.mk (bb_ BK302.out hb); have n6_ := Aside0.mk (bb_ BK303.out hb); have n7_ := Aside0.mk (bb_ BK308.out hb); have n8_ := Aside0.mk (bb_ BK312.out hb); have n9_ := Aside0.mk (below_step (bl6_ HB.out GE300.out GE301.out GE302.out GE303.out GE308.out GE312.out) hb); have n10_ := Aside0.mk (hbox); have n11_ := Aside0.mk ((bs6_ hg HB.out GE300.out GE301.out GE302.out GE303.out GE308.out GE312.out : w.heap.size ≤ gb324)); have n12_ := Aside0.mk ((bs6_ hg HB.out GE300.out GE301.out GE302.out GE303.out GE308.out GE312.out : w.heap.size ≤ gb324)); have n13_ := Aside0.mk ((nl_ hg BK300.out : gb300 ≠ gb324)); have n14_ := Aside0.mk ((ng_ hg BK300.out : gb324 ≠ gb300)); have n15_ := Aside0.mk ((nl_ hg BK301.out : gb301 ≠ gb324)); have n16_ := Aside0.mk ((ng_ hg BK301.out : gb324 ≠ gb301)); have n17_ := Aside0.mk ((nl_ hg BK302.out : gb302 ≠ gb324)); have n18_ := Aside0.mk ((ng_ hg BK302.out : gb324 ≠ gb302)); have n19_ := Aside0.mk ((nl_ hg BK303.out : gb303 ≠ gb324)); have n20_ := Aside0.mk ((ng_ hg BK303.out : gb324 ≠ gb303)); have n21_ := Aside0.mk ((nl_ hg BK308.out : gb308 ≠ gb324)); have n22_ := Aside0.mk ((ng_ hg BK308.out : gb324 ≠ gb308)); have n23_ := Aside0.mk ((nl_ hg BK312.out : gb312 ≠ gb324)); have n24_ := Aside0.mk ((ng_ hg BK312.out : gb324 ≠ gb312)); clear HO_19; clear HO_304002; clear HO_304003; clear BK300; clear BK301; clear BK302; clear BK303; clear BK308; clear BK312; clear HB; have HO_19 := n0_; have HO_304002 := n1_; have HO_304003 := n2_; have BK300 := n3_; have BK301 := n4_; have BK302 := n5_; have BK303 := n6_; have BK308 := n7_; have BK312 := n8_; have HB := n9_; have BK324 := n10_; have GW324 := n11_; have GE324 := n12_; have NB300_324 := n13_; have NB324_300 := n14_; have NB301_324 := n15_; have NB324_301 := n16_; have NB302_324 := n17_; have NB324_302 := n18_; have NB303_324 := n19_; have NB324_303 := n20_; have NB308_324 := n21_; have NB324_308 := n22_; have NB312_324 := n23_; have NB324_312 := n24_; clear n0_ n1_ n2_ n3_ n4_ n5_ n6_ n7_ n8_ n9_ n10_ n11_ n12_ n13_ n14_ n15_ n16_ n17_ n18_ n19_ n20_ n21_ n22_ n23_ n24_; clear hb hbox hg; have hnb78 := NB324_300.out; have hnc78 := NB300_324.out; have hnb79 := NB324_301.out; have hnc79 := NB301_324.out; have hnb80 := NB324_302.out; have hnc80 := NB302_324.out; have hnb81 := NB324_303.out; have hnc81 := NB303_324.out; have hnb82 := NB324_308.out; have hnc82 := NB308_324.out; have hnb83 := NB324_312.out; have hnc83 := NB312_324.out; have hcz84_0 : w77.cell? ⟨gb324, 0, none⟩ = some (.int .i64 0) := (blk_cell BK324.out 0).trans rfl; have hcz84_1 : w77.cell? ⟨gb324, 1, none⟩ = some (.int .i64 0) := (blk_cell BK324.out 1).trans rfl; have hfz84_0 := blk_frozen BK324.out 0; have hfz84_1 := blk_frozen BK324.out 1; have hnb85 := NB303_301.out; have hnc85 := NB301_303.out; have hnb86 := NB303_302.out; have hnc86 := NB302_303.out; have hnb87 := NB303_312.out; have hnc87 := NB312_303.out; have hcz88_0 : w77.cell? ⟨gb303, 0, none⟩ = some (.int .i64 x304000_23) := (blk_cell BK303.out 0).trans rfl; have hcz88_1 : w77.cell? ⟨gb303, 1, none⟩ = some (.int .i64 x304001_23) := (blk_cell BK303.out 1).trans rfl; have hcz88_2 : w77.cell? ⟨gb303, 2, none⟩ = some (u304002) := (blk_cell BK303.out 2).trans rfl; have hcz88_3 : w77.cell? ⟨gb303, 3, none⟩ = some (u304003) := (blk_cell BK303.out 3).trans rfl; have hfz88_0 := blk_frozen BK303.out 0; have hfz88_1 := blk_frozen BK303.out 1; have hfz88_2 := blk_frozen BK303.out 2; have hfz88_3 := blk_frozen BK303.out 3; have hcz89_0 : w77.cell? ⟨gb308, 0, none⟩ = some (.int .i64 ((rd_T36 t304 x21_1).f0)) := (blk_cell BK308.out 0).trans rfl; have hcz89_1 : w77.cell? ⟨gb308, 1, none⟩ = some (.int .i64 ((rd_T36 t304 x21_1).f1)) := (blk_cell BK308.out 1).trans rfl; have hfz89_0 := blk_frozen BK308.out 0; have hfz89_1 := blk_frozen BK308.out 1; obtain ⟨Ao90, co90, eo90⟩ := Kd.R_slice HO_304002.out; subst eo90; obtain ⟨Ao91, co91, eo91⟩ := Kd.R_slice HO_304003.out; subst eo91) | ((with_reducible refine gate_callee (f := 152) rfl ?_); refine goesL_ (some 50) rfl rfl Try.func152 (by kernel_rfl) rfl #[.agg #[.int .i64 x304000_23, .int .i64 x304001_23, .slice Ao90 x304002_23.length co90, .slice Ao91 x304003_23.length co91], .bool true, .int .i64 ((rd_T36 t304 x21_1).f0), .int .i64 ((rd_T36 t304 x21_1).f1)] rfl ob_ ?_; (with_reducible refine (spec_fiPut.calls kj23 x304000_23 x304001_23 _ _ x304002_23 _ _ x304003_23 true ((rd_T36 t304 x21_1).f0) ((rd_T36 t304 x21_1).f1) t325 t326 t327 t330 _ ?side1 ?side2 ?side3 ?side4 A64.out).mono ?_); (case side1 => refine (Kd.R_reads' (e := 3) (base := w.heap.size) (ok := fun k_ => some k_ ≠ (.slice Ao91 x304003_23.length co91 : Value).ownBlock) (n := x304002_23.length) (c := co90) ?_).2.2; exact (by (with_reducible repeat (first | apply Kd.R_alloc | apply Kd.R_drewN | apply Kd.R_drew)); exact (Kd.R_mono (Kd.R_far (p := ⟨gb324, 1, none⟩) (Kd.R_far (p := ⟨gb324, 0, none⟩) (Kd.R_types HO_304002.out BK324.out (by decide)) (fun _ hk => hk.2) (.int .i64 t321)) (fun _ hk => hk.2) (.int .i64 t322)) (fun _ h_ => h_.1)))); (case side2 => exact (Kd.R_reads' HO_304002.out).2.1); (case side3 => refine (Kd.R_reads' (e := 3) (base := w.heap.size) (ok := fun k_ => some k_ ≠ (.slice Ao90 x304002_23.length co90 : Value).ownBlock) (n := x304003_23.length) (c := co91) ?_).2.2; exact (by (with_reducible repeat (first | apply Kd.R_alloc | apply Kd.R_drewN | apply Kd.R_drew)); exact (Kd.R_mono (Kd.R_far (p := ⟨gb324, 1, none⟩) (Kd.R_far (p := ⟨gb324, 0, none⟩) (Kd.R_types HO_304003.out BK324.out (by decide)) (fun _ hk => hk.2) (.int .i64 t321)) (fun _ hk => hk.2) (.int .i64 t322)) (fun _ h_ => h_.1)))); (case side4 => exact (Kd.R_reads' HO_304003.out).2.1); rintro e w92 ⟨v328, v331, rfl, ho0, ho1, hb⟩; refine ⟨_, rfl, ?_⟩; have n0_ := Aside0.mk (Kd.R_below (by (with_reducible repeat (first | apply Kd.R_alloc | apply Kd.R_drewN | apply Kd.R_drew)); exact (Kd.R_mono (Kd.R_far (p := ⟨gb324, 1, none⟩) (Kd.R_far (p := ⟨gb324, 0, none⟩) (Kd.R_mono HO_19.out (fun k_ hk => (⟨hk, hk.2⟩ : _ ∧ k_ ≠ gb324))) (fun _ hk => hk.2) (.int .i64 t321)) (fun _ hk => hk.2) (.int .i64 t322)) (fun _ h_ => h_.1))) hb); have n1_ := Aside0.mk (Kd.R_mono (Kd.R_told (Kd.R_told (Kd.R_old (by (with_reducible repeat (first | apply Kd.R_alloc | apply Kd.R_drewN | apply Kd.R_drew)); exact (Kd.R_mono (Kd.R_far (p := ⟨gb324, 1, none⟩) (Kd.R_far (p := ⟨gb324, 0, none⟩) (Kd.R_types HO_304002.out BK324.out (by decide)) (fun _ hk => hk.2) (.int .i64 t321)) (fun _ hk => hk.2) (.int .i64 t322)) (fun _ h_ => h_.1))) hb) (Kd.R_base ho0)) (Kd.R_base ho1)) (fun _ h_ => h_.1)); have n2_ := Aside0.mk (Kd.R_mono (Kd.R_told (Kd.R_told (Kd.R_old (by (with_reducible repeat (first | apply Kd.R_alloc | apply Kd.R_drewN | apply Kd.R_drew)); exact (Kd.R_mono (Kd.R_far (p := ⟨gb324, 1, none⟩) (Kd.R_far (p := ⟨gb324, 0, none⟩) (Kd.R_types HO_304003.out BK324.out (by decide)) (fun _ hk => hk.2) (.int .i64 t321)) (fun _ hk => hk.2) (.int .i64 t322)) (fun _ h_ => h_.1))) hb) (Kd.R_base ho0)) (Kd.R_base ho1)) (fun _ h_ => h_.1)); have n3_ := Aside0.mk (Kd.R_lower (Kd.R_new' (Kd.R_new' ho0 (Kd.R_lt (by (with_reducible repeat (first | apply Kd.R_alloc | apply Kd.R_drewN | apply Kd.R_drew)); exact (Kd.R_mono (Kd.R_far (p := ⟨gb324, 1, none⟩) (Kd.R_far (p := ⟨gb324, 0, none⟩) (Kd.R_types HO_304002.out BK324.out (by decide)) (fun _ hk => hk.2) (.int .i64 t321)) (fun _ hk => hk.2) (.int .i64 t322)) (fun _ h_ => h_.1))))) (Kd.R_lt (by (with_reducible repeat (first | apply Kd.R_alloc | apply Kd.R_drewN | apply Kd.R_drew)); exact (Kd.R_mono (Kd.R_far (p := ⟨gb324, 1, none⟩) (Kd.R_far (p := ⟨gb324, 0, none⟩) (Kd.R_types HO_304003.out BK324.out (by decide)) (fun _ hk => hk.2) (.int .i64 t321)) (fun _ hk => hk.2) (.int .i64 t322)) (fun _ h_ => h_.1))))) (below_size (bl7_ HB.out GE300.out GE301.out GE302.out GE303.out GE308.out GE312.out GE324.out))); have n4_ := Aside0.mk (Kd.R_lower (Kd.R_new' (Kd.R_new' ho1 (Kd.R_lt (by (with_reducible repeat (first | apply Kd.R_alloc | apply Kd.R_drewN | apply Kd.R_drew)); exact (Kd.R_mono (Kd.R_far (p := ⟨gb324, 1, none⟩) (Kd.R_far (p := ⟨gb324, 0, none⟩) (Kd.R_types HO_304002.out BK324.out (by decide)) (fun _ hk => hk.2) (.int .i64 t321)) (fun _ hk => hk.2) (.int .i64 t322)) (fun _ h_ => h_.1))))) (Kd.R_lt (by (with_reducible repeat (first | apply Kd.R_alloc | apply Kd.R_drewN | apply Kd.R_drew)); exact (Kd.R_mono (Kd.R_far (p := ⟨gb324, 1, none⟩) (Kd.R_far (p := ⟨gb324, 0, none⟩) (Kd.R_types HO_304003.out BK324.out (by decide)) (fun _ hk => hk.2) (.int .i64 t321)) (fun _ hk => hk.2) (.int .i64 t322)) (fun _ h_ => h_.1))))) (below_size (bl7_ HB.out GE300.out GE301.out GE302.out GE303.out GE308.out GE312.out GE324.out))); have n5_ := Aside0.mk (blk_below (g := gb300) (o := .cells #[.int .i64 a0_0, .int .i64 a0_1, .slice A0_2 l0_2.length c0_2, .slice A0_3 l0_3.length c0_3] 28 (0, 0)) (bf2_ NB300_324.out NB300_324.out BK300.out) hb); have n6_ := Aside0.mk (blk_below (g := gb301) (o := .cells #[.int .i64 a1_0, .int .i64 a1_1] 36 (0, 0)) (bf2_ NB301_324.out NB301_324.out BK301.out) hb); have n7_ := Aside0.mk (blk_below (g := gb302) (o := .cells #[.int .i64 0, .int .i64 0, .slice none 0 0, .slice none 0 0] 28 (0, 0)) (bf2_ NB302_324.out NB302_324.out BK302.out) hb); have n8_ := Aside0.mk (blk_below (g := gb303) (o := .cells #[.int .i64 x304000_23, .int .i64 x304001_23, .slice Ao90 x304002_23.length co90, .slice Ao91 x304003_23.length co91] 28 (0, 0)) (bf2_ NB303_324.out NB303_324.out BK303.out) hb); have n9_ := Aside0.mk (blk_below (g := gb308) (o := .cells #[.int .i64 ((rd_T36 t304 x21_1).f0), .int .i64 ((rd_T36 t304 x21_1).f1)] 36 (0, 0)) (bf2_ NB308_324.out NB308_324.out BK308.out) hb); have n10_ := Aside0.mk (blk_below (g := gb312) (o := .cells #[.int .i64 t309, .int .i64 t310] 36 (0, 0)) (bf2_ NB312_324.out NB312_324.out BK312.out) hb); have n11_ := Aside0.mk (blk_below (g := gb324) (o := .cells #[.int .i64 t321, .int .i64 t322] 36 (0, 0)) (by (with_reducible repeat (first | refine blk_drewN ?_ _ | refine blk_drew ?_ | refine blk_alloc ?_ _)); refine blk_put (cs := #[.int .i64 t321, .int .i64 0]) ?_ 1 _ rfl; (with_reducible repeat (first | refine blk_drewN ?_ _ | refine blk_drew ?_ | refine blk_alloc ?_ _)); refine blk_put (cs := #[.int .i64 0, .int .i64 0]) ?_ 0 _ rfl; (with_reducible repeat (first | refine blk_drewN ?_ _ | refine blk_drew ?_ | refine blk_alloc ?_ _)); exact BK324.out) hb); have n12_ := Aside0.mk (below_step (bl7_ HB.out GE300.out GE301.out GE302.out GE303.out GE308.out GE312.out GE324.out) hb); clear HO_19; clear HO_304002; clear HO_304003; clear BK300; clear BK301; clear BK302; clear BK303; clear BK308; clear BK312; clear BK324; clear HB; have HO_19 := n0_; have HO_304002 := n1_; have HO_304003 := n2_; have HO329 := n3_; have HO332 := n4_; have BK300 := n5_; have BK301 := n6_; have BK302 := n7_; have BK303 := n8_; have BK308 := n9_; have BK312 := n10_; have BK324 := n11_; have HB := n12_; clear n0_ n1_ n2_ n3_ n4_ n5_ n6_ n7_ n8_ n9_ n10_ n11_ n12_; (try clear hb); (try clear hb2); (try clear hk); (try clear hi); (try clear ho0); (try clear ho1); have hcz93_0 : w92.cell? ⟨gb303, 0, none⟩ = some (.int .i64 x304000_23) := (blk_cell BK303.out 0).trans rfl; have hcz93_1 : w92.cell? ⟨gb303, 1, none⟩ = some (.int .i64 x304001_23) := (blk_cell BK303.out 1).trans rfl; have hcz93_2 : w92.cell? ⟨gb303, 2, none⟩ = some (.slice Ao90 x304002_23.length co90) := (blk_cell BK303.out 2).trans rfl; have hcz93_3 : w92.cell? ⟨gb303, 3, none⟩ = some (.slice Ao91 x304003_23.length co91) := (blk_cell BK303.out 3).trans rfl; have hfz93_0 := blk_frozen BK303.out 0; have hfz93_1 := blk_frozen BK303.out 1; have hfz93_2 := blk_frozen BK303.out 2; have hfz93_3 := blk_frozen BK303.out 3; obtain ⟨Ao94, co94, eo94⟩ := Kd.R_slice HO329.out; subst eo94; obtain ⟨Ao95, co95, eo95⟩ := Kd.R_slice HO332.out; subst eo95))
         go_roundg kj23
         case measure => have := HK1.out; have := HJ23.out; omega
         case rel => exact ⟨(wrap64 (x21_1 + 1)), (t325), (t326), (t327), (t330), (.slice Ao94 t327.length co94), (.slice Ao95 t330.length co95), rs_, H', ⟨by have := HK1.out; have := HJ23.out; omega⟩, ⟨by (with_reducible repeat (first | apply Kd.R_alloc | apply Kd.R_drewN | apply Kd.R_drew)); exact Kd.R_mono (Kd.R_far (p := ⟨gb303, 3, none⟩) (Kd.R_far (p := ⟨gb303, 2, none⟩) (Kd.R_far (p := ⟨gb303, 1, none⟩) (Kd.R_far (p := ⟨gb303, 0, none⟩) (Kd.R_types HO_19.out BK303.out (by decide)) (fun _ hk => hk.2) (.int .i64 t325)) (fun _ hk => hk.2) (.int .i64 t326)) (fun _ hk => hk.2) (.slice Ao94 t327.length co94)) (fun _ hk => hk.2) (.slice Ao95 t330.length co95)) (fun _ hk => hk.1.1.1)⟩, ⟨by (with_reducible repeat (first | apply Kd.R_alloc | apply Kd.R_drewN | apply Kd.R_drew)); exact Kd.R_mono (Kd.R_far (p := ⟨gb303, 3, none⟩) (Kd.R_far (p := ⟨gb303, 2, none⟩) (Kd.R_far (p := ⟨gb303, 1, none⟩) (Kd.R_far (p := ⟨gb303, 0, none⟩) (Kd.R_types HO329.out BK303.out (by decide)) (fun _ hk => hk.2) (.int .i64 t325)) (fun _ hk => hk.2) (.int .i64 t326)) (fun _ hk => hk.2) (.slice Ao94 t327.length co94)) (fun _ hk => hk.2) (.slice Ao95 t330.length co95)) (fun _ hk => hk.1.1.1)⟩, ⟨by (with_reducible repeat (first | apply Kd.R_alloc | apply Kd.R_drewN | apply Kd.R_drew)); exact Kd.R_mono (Kd.R_far (p := ⟨gb303, 3, none⟩) (Kd.R_far (p := ⟨gb303, 2, none⟩) (Kd.R_far (p := ⟨gb303, 1, none⟩) (Kd.R_far (p := ⟨gb303, 0, none⟩) (Kd.R_types HO332.out BK303.out (by decide)) (fun _ hk => hk.2) (.int .i64 t325)) (fun _ hk => hk.2) (.int .i64 t326)) (fun _ hk => hk.2) (.slice Ao94 t327.length co94)) (fun _ hk => hk.2) (.slice Ao95 t330.length co95)) (fun _ hk => hk.1.1.1)⟩, ⟨bf4_ NB300_303.out NB300_303.out NB300_303.out NB300_303.out BK300.out⟩, ⟨bf4_ NB301_303.out NB301_303.out NB301_303.out NB301_303.out BK301.out⟩, ⟨bf4_ NB302_303.out NB302_303.out NB302_303.out NB302_303.out BK302.out⟩, ⟨by (with_reducible repeat (first | refine blk_drewN ?_ _ | refine blk_drew ?_ | refine blk_alloc ?_ _)); refine blk_put (cs := #[.int .i64 t325, .int .i64 t326, .slice Ao94 t327.length co94, .slice Ao91 x304003_23.length co91]) ?_ 3 _ rfl; (with_reducible repeat (first | refine blk_drewN ?_ _ | refine blk_drew ?_ | refine blk_alloc ?_ _)); refine blk_put (cs := #[.int .i64 t325, .int .i64 t326, .slice Ao90 x304002_23.length co90, .slice Ao91 x304003_23.length co91]) ?_ 2 _ rfl; (with_reducible repeat (first | refine blk_drewN ?_ _ | refine blk_drew ?_ | refine blk_alloc ?_ _)); refine blk_put (cs := #[.int .i64 t325, .int .i64 x304001_23, .slice Ao90 x304002_23.length co90, .slice Ao91 x304003_23.length co91]) ?_ 1 _ rfl; (with_reducible repeat (first | refine blk_drewN ?_ _ | refine blk_drew ?_ | refine blk_alloc ?_ _)); refine blk_put (cs := #[.int .i64 x304000_23, .int .i64 x304001_23, .slice Ao90 x304002_23.length co90, .slice Ao91 x304003_23.length co91]) ?_ 0 _ rfl; (with_reducible repeat (first | refine blk_drewN ?_ _ | refine blk_drew ?_ | refine blk_alloc ?_ _)); exact BK303.out⟩, ⟨bl7_ HB.out GE300.out GE301.out GE302.out GE303.out GE308.out GE312.out GE324.out⟩⟩
        ·replace c63 := Bool.eq_false_iff.mpr c63
         subst c63
         have H1 : (spec_liPart.l0 kj23 t304 (t304.length : Int) (wrap64 (x21_1 + 1)) a0_0 a0_1 l0_2 l0_3 x304000_23 x304001_23 x304002_23 x304003_23) = some (r1, r2, r3, r4) := by rw [if_neg (show ¬ (false = true) by decide)] at H; exact H
         clear H
         have H := H1
         clear H1
         have H' := Aside0.mk H
         clear H
         have hnb96 := NB300_301.out
         have hnc96 := NB301_300.out
         have hnb97 := NB300_302.out
         have hnc97 := NB302_300.out
         have hnb98 := NB300_303.out
         have hnc98 := NB303_300.out
         have hnb99 := NB300_308.out
         have hnc99 := NB308_300.out
         have hnb100 := NB300_312.out
         have hnc100 := NB312_300.out
         have hcz101_0 : wc.cell? ⟨gb300, 0, none⟩ = some (.int .i64 a0_0) := (blk_cell BK300.out 0).trans rfl
         have hcz101_1 : wc.cell? ⟨gb300, 1, none⟩ = some (.int .i64 a0_1) := (blk_cell BK300.out 1).trans rfl
         have hcz101_2 : wc.cell? ⟨gb300, 2, none⟩ = some (.slice A0_2 l0_2.length c0_2) := (blk_cell BK300.out 2).trans rfl
         have hcz101_3 : wc.cell? ⟨gb300, 3, none⟩ = some (.slice A0_3 l0_3.length c0_3) := (blk_cell BK300.out 3).trans rfl
         have hfz101_0 := blk_frozen BK300.out 0
         have hfz101_1 := blk_frozen BK300.out 1
         have hfz101_2 := blk_frozen BK300.out 2
         have hfz101_3 := blk_frozen BK300.out 3
         have hnb102 := NB308_301.out
         have hnc102 := NB301_308.out
         have hnb103 := NB308_302.out
         have hnc103 := NB302_308.out
         have hnb104 := NB308_303.out
         have hnc104 := NB303_308.out
         have hnb105 := NB308_312.out
         have hnc105 := NB312_308.out
         have hcz106_0 : wc.cell? ⟨gb308, 0, none⟩ = some (.int .i64 ((rd_T36 t304 x21_1).f0)) := (blk_cell BK308.out 0).trans rfl
         have hcz106_1 : wc.cell? ⟨gb308, 1, none⟩ = some (.int .i64 ((rd_T36 t304 x21_1).f1)) := (blk_cell BK308.out 1).trans rfl
         have hfz106_0 := blk_frozen BK308.out 0
         have hfz106_1 := blk_frozen BK308.out 1
         go_wp2_with (first | ((with_reducible refine gate_callee (f := 76) rfl ?_); refine goesL_ (some 41) rfl rfl Try.func76 (by kernel_rfl) rfl #[.agg #[.int .i64 a0_0, .int .i64 a0_1, .slice A0_2 l0_2.length c0_2, .slice A0_3 l0_3.length c0_3], .agg #[.int .i64 ((rd_T36 t304 x21_1).f0), .int .i64 ((rd_T36 t304 x21_1).f1)], .int .i64 2] rfl ob_ ?_; (with_reducible refine (spec_liNext.calls kj23 a0_0 a0_1 _ _ l0_2 _ _ l0_3 ((rd_T36 t304 x21_1).f0) ((rd_T36 t304 x21_1).f1) 2 t321 t322 false _ ?side1 ?side2 ?side3 ?side4 A62.out).mono ?_); (case side1 => exact kc_ (Kd.C_below HR0_2.out HB.out)); (case side2 => exact HC0_2.out); (case side3 => exact kc_ (Kd.C_below HR0_3.out HB.out)); (case side4 => exact HC0_3.out); rintro e w107 ⟨rfl, hb⟩; refine ⟨_, rfl, ?_⟩; have n0_ := Aside0.mk (Kd.R_below (kr_ HO_19.out) hb); have n1_ := Aside0.mk (Kd.R_below (kr_ HO_304002.out) hb); have n2_ := Aside0.mk (Kd.R_below (kr_ HO_304003.out) hb); have n3_ := Aside0.mk (bb_ BK300.out hb); have n4_ := Aside0.mk (bb_ BK301.out hb); have n5_ := Aside0.mk (bb_ BK302.out hb); have n6_ := Aside0.mk (bb_ BK303.out hb); have n7_ := Aside0.mk (bb_ BK308.out hb); have n8_ := Aside0.mk (bb_ BK312.out hb); have n9_ := Aside0.mk (below_step (bl6_ HB.out GE300.out GE301.out GE302.out GE303.out GE308.out GE312.out) hb); clear HO_19; clear HO_304002; clear HO_304003; clear BK300; clear BK301; clear BK302; clear BK303; clear BK308; clear BK312; clear HB; have HO_19 := n0_; have HO_304002 := n1_; have HO_304003 := n2_; have BK300 := n3_; have BK301 := n4_; have BK302 := n5_; have BK303 := n6_; have BK308 := n7_; have BK312 := n8_; have HB := n9_; clear n0_ n1_ n2_ n3_ n4_ n5_ n6_ n7_ n8_ n9_; (try clear hb); (try clear hb2); (try clear hk); (try clear hi)) | ((with_reducible refine gate_dst (N := 10) rfl ?_); refine boxE_ (N := 10) (cs := #[.int .i64 0, .int .i64 0]) (t := 36) ?_; intro gb324 hg w108 hbox hb; have n0_ := Aside0.mk (Kd.R_below (Kd.R_elderB (kr_ HO_19.out) gb324 (Nat.le_of_eq hg.symm)) hb); have n1_ := Aside0.mk (Kd.R_below (kr_ HO_304002.out) hb); have n2_ := Aside0.mk (Kd.R_below (kr_ HO_304003.out) hb); have n3_ := Aside0.mk (bb_ BK300.out hb); have n4_ := Aside0.mk (bb_ BK301.out hb); have n5_ := Aside0.mk (bb_ BK302.out hb); have n6_ := Aside0.mk (bb_ BK303.out hb); have n7_ := Aside0.mk (bb_ BK308.out hb); have n8_ := Aside0.mk (bb_ BK312.out hb); have n9_ := Aside0.mk (below_step (bl6_ HB.out GE300.out GE301.out GE302.out GE303.out GE308.out GE312.out) hb); have n10_ := Aside0.mk (hbox); have n11_ := Aside0.mk ((bs6_ hg HB.out GE300.out GE301.out GE302.out GE303.out GE308.out GE312.out : w.heap.size ≤ gb324)); have n12_ := Aside0.mk ((bs6_ hg HB.out GE300.out GE301.out GE302.out GE303.out GE308.out GE312.out : w.heap.size ≤ gb324)); have n13_ := Aside0.mk ((nl_ hg BK300.out : gb300 ≠ gb324)); have n14_ := Aside0.mk ((ng_ hg BK300.out : gb324 ≠ gb300)); have n15_ := Aside0.mk ((nl_ hg BK301.out : gb301 ≠ gb324)); have n16_ := Aside0.mk ((ng_ hg BK301.out : gb324 ≠ gb301)); have n17_ := Aside0.mk ((nl_ hg BK302.out : gb302 ≠ gb324)); have n18_ := Aside0.mk ((ng_ hg BK302.out : gb324 ≠ gb302)); have n19_ := Aside0.mk ((nl_ hg BK303.out : gb303 ≠ gb324)); have n20_ := Aside0.mk ((ng_ hg BK303.out : gb324 ≠ gb303)); have n21_ := Aside0.mk ((nl_ hg BK308.out : gb308 ≠ gb324)); have n22_ := Aside0.mk ((ng_ hg BK308.out : gb324 ≠ gb308)); have n23_ := Aside0.mk ((nl_ hg BK312.out : gb312 ≠ gb324)); have n24_ := Aside0.mk ((ng_ hg BK312.out : gb324 ≠ gb312)); clear HO_19; clear HO_304002; clear HO_304003; clear BK300; clear BK301; clear BK302; clear BK303; clear BK308; clear BK312; clear HB; have HO_19 := n0_; have HO_304002 := n1_; have HO_304003 := n2_; have BK300 := n3_; have BK301 := n4_; have BK302 := n5_; have BK303 := n6_; have BK308 := n7_; have BK312 := n8_; have HB := n9_; have BK324 := n10_; have GW324 := n11_; have GE324 := n12_; have NB300_324 := n13_; have NB324_300 := n14_; have NB301_324 := n15_; have NB324_301 := n16_; have NB302_324 := n17_; have NB324_302 := n18_; have NB303_324 := n19_; have NB324_303 := n20_; have NB308_324 := n21_; have NB324_308 := n22_; have NB312_324 := n23_; have NB324_312 := n24_; clear n0_ n1_ n2_ n3_ n4_ n5_ n6_ n7_ n8_ n9_ n10_ n11_ n12_ n13_ n14_ n15_ n16_ n17_ n18_ n19_ n20_ n21_ n22_ n23_ n24_; clear hb hbox hg; have hnb109 := NB324_300.out; have hnc109 := NB300_324.out; have hnb110 := NB324_301.out; have hnc110 := NB301_324.out; have hnb111 := NB324_302.out; have hnc111 := NB302_324.out; have hnb112 := NB324_303.out; have hnc112 := NB303_324.out; have hnb113 := NB324_308.out; have hnc113 := NB308_324.out; have hnb114 := NB324_312.out; have hnc114 := NB312_324.out; have hcz115_0 : w108.cell? ⟨gb324, 0, none⟩ = some (.int .i64 0) := (blk_cell BK324.out 0).trans rfl; have hcz115_1 : w108.cell? ⟨gb324, 1, none⟩ = some (.int .i64 0) := (blk_cell BK324.out 1).trans rfl; have hfz115_0 := blk_frozen BK324.out 0; have hfz115_1 := blk_frozen BK324.out 1))
         go_roundg kj23
         case measure => have := HK1.out; have := HJ23.out; omega
         case rel => exact ⟨(wrap64 (x21_1 + 1)), (x304000_23), (x304001_23), (x304002_23), (x304003_23), (u304002), (u304003), rs_, H', ⟨by have := HK1.out; have := HJ23.out; omega⟩, ⟨by (with_reducible repeat (first | apply Kd.R_alloc | apply Kd.R_drewN | apply Kd.R_drew)); exact Kd.R_mono (Kd.R_far (p := ⟨gb324, 1, none⟩) (Kd.R_far (p := ⟨gb324, 0, none⟩) (Kd.R_mono HO_19.out (fun k_ hk => (⟨hk, hk.2⟩ : _ ∧ k_ ≠ gb324))) (fun _ hk => hk.2) (.int .i64 t321)) (fun _ hk => hk.2) (.int .i64 t322)) (fun _ hk => hk.1.1.1)⟩, ⟨by (with_reducible repeat (first | apply Kd.R_alloc | apply Kd.R_drewN | apply Kd.R_drew)); exact Kd.R_mono (Kd.R_far (p := ⟨gb324, 1, none⟩) (Kd.R_far (p := ⟨gb324, 0, none⟩) (Kd.R_types HO_304002.out BK324.out (by decide)) (fun _ hk => hk.2) (.int .i64 t321)) (fun _ hk => hk.2) (.int .i64 t322)) (fun _ hk => hk.1)⟩, ⟨by (with_reducible repeat (first | apply Kd.R_alloc | apply Kd.R_drewN | apply Kd.R_drew)); exact Kd.R_mono (Kd.R_far (p := ⟨gb324, 1, none⟩) (Kd.R_far (p := ⟨gb324, 0, none⟩) (Kd.R_types HO_304003.out BK324.out (by decide)) (fun _ hk => hk.2) (.int .i64 t321)) (fun _ hk => hk.2) (.int .i64 t322)) (fun _ hk => hk.1)⟩, ⟨bf2_ NB300_324.out NB300_324.out BK300.out⟩, ⟨bf2_ NB301_324.out NB301_324.out BK301.out⟩, ⟨bf2_ NB302_324.out NB302_324.out BK302.out⟩, ⟨bf2_ NB303_324.out NB303_324.out BK303.out⟩, ⟨bl7_ HB.out GE300.out GE301.out GE302.out GE303.out GE308.out GE312.out GE324.out⟩⟩
     ·rw [if_neg c22] at H
      exact absurd H (by simp)
    ·rw [if_neg c21] at H
     exact absurd H (by simp)
   ·rw [if_neg c20] at H
    have c20b0 : decide (x21_1 < (t304.length : Int)) = false := decide_eq_false c20
    clear c20
    simp only [Option.some.injEq, Prod.mk.injEq] at H
    obtain ⟨rfl, rfl, rfl, rfl⟩ := H
    have hnb116 := NB303_300.out
    have hnc116 := NB300_303.out
    have hnb117 := NB303_301.out
    have hnc117 := NB301_303.out
    have hnb118 := NB303_302.out
    have hnc118 := NB302_303.out
    have hcz119_0 : wr.cell? ⟨gb303, 0, none⟩ = some (.int .i64 x304000_1) := (blk_cell BK303.out 0).trans rfl
    have hcz119_1 : wr.cell? ⟨gb303, 1, none⟩ = some (.int .i64 x304001_1) := (blk_cell BK303.out 1).trans rfl
    have hcz119_2 : wr.cell? ⟨gb303, 2, none⟩ = some (u304002) := (blk_cell BK303.out 2).trans rfl
    have hcz119_3 : wr.cell? ⟨gb303, 3, none⟩ = some (u304003) := (blk_cell BK303.out 3).trans rfl
    have hfz119_0 := blk_frozen BK303.out 0
    have hfz119_1 := blk_frozen BK303.out 1
    have hfz119_2 := blk_frozen BK303.out 2
    have hfz119_3 := blk_frozen BK303.out 3
    have hnb120 := NB302_300.out
    have hnc120 := NB300_302.out
    have hnb121 := NB302_301.out
    have hnc121 := NB301_302.out
    have hcz122_0 : wr.cell? ⟨gb302, 0, none⟩ = some (.int .i64 0) := (blk_cell BK302.out 0).trans rfl
    have hcz122_1 : wr.cell? ⟨gb302, 1, none⟩ = some (.int .i64 0) := (blk_cell BK302.out 1).trans rfl
    have hcz122_2 : wr.cell? ⟨gb302, 2, none⟩ = some (.slice none 0 0) := (blk_cell BK302.out 2).trans rfl
    have hcz122_3 : wr.cell? ⟨gb302, 3, none⟩ = some (.slice none 0 0) := (blk_cell BK302.out 3).trans rfl
    have hfz122_0 := blk_frozen BK302.out 0
    have hfz122_1 := blk_frozen BK302.out 1
    have hfz122_2 := blk_frozen BK302.out 2
    have hfz122_3 := blk_frozen BK302.out 3
    obtain ⟨Ao123, co123, eo123⟩ := Kd.R_slice HO_304002.out
    subst eo123
    obtain ⟨Ao124, co124, eo124⟩ := Kd.R_slice HO_304003.out
    subst eo124
    go_wp2
    refine bodyPost_ret (results_cell_row rfl _ _ gb302 28 #[.int .i64 x304000_1, .int .i64 x304001_1, .slice Ao123 x304002_1.length co123, .slice Ao124 x304003_1.length co124] (0, 0) _ rfl (by (with_reducible repeat (first | refine blk_drewN ?_ _ | refine blk_drew ?_ | refine blk_alloc ?_ _)); refine blk_put (cs := #[.int .i64 x304000_1, .int .i64 x304001_1, .slice Ao123 x304002_1.length co123, .slice none 0 0]) ?_ 3 _ rfl; (with_reducible repeat (first | refine blk_drewN ?_ _ | refine blk_drew ?_ | refine blk_alloc ?_ _)); refine blk_put (cs := #[.int .i64 x304000_1, .int .i64 x304001_1, .slice none 0 0, .slice none 0 0]) ?_ 2 _ rfl; (with_reducible repeat (first | refine blk_drewN ?_ _ | refine blk_drew ?_ | refine blk_alloc ?_ _)); refine blk_put (cs := #[.int .i64 x304000_1, .int .i64 0, .slice none 0 0, .slice none 0 0]) ?_ 1 _ rfl; (with_reducible repeat (first | refine blk_drewN ?_ _ | refine blk_drew ?_ | refine blk_alloc ?_ _)); refine blk_put (cs := #[.int .i64 0, .int .i64 0, .slice none 0 0, .slice none 0 0]) ?_ 0 _ rfl; (with_reducible repeat (first | refine blk_drewN ?_ _ | refine blk_drew ?_ | refine blk_alloc ?_ _)); exact BK302.out) Try.underlying28 rfl (by kernel_rfl)) rfl ?_
    exact ⟨_, _, er_, by (with_reducible repeat (first | apply Kd.R_alloc | apply Kd.R_drewN | apply Kd.R_drew)); exact Kd.R_mono (Kd.R_far (p := ⟨gb302, 3, none⟩) (Kd.R_far (p := ⟨gb302, 2, none⟩) (Kd.R_far (p := ⟨gb302, 1, none⟩) (Kd.R_far (p := ⟨gb302, 0, none⟩) (Kd.R_types HO_304002.out BK302.out (by decide)) (fun _ hk => hk.2) (.int .i64 x304000_1)) (fun _ hk => hk.2) (.int .i64 x304001_1)) (fun _ hk => hk.2) (.slice Ao123 x304002_1.length co123)) (fun _ hk => hk.2) (.slice Ao124 x304003_1.length co124)) (fun _ hk => hk.1), by (with_reducible repeat (first | apply Kd.R_alloc | apply Kd.R_drewN | apply Kd.R_drew)); exact Kd.R_mono (Kd.R_far (p := ⟨gb302, 3, none⟩) (Kd.R_far (p := ⟨gb302, 2, none⟩) (Kd.R_far (p := ⟨gb302, 1, none⟩) (Kd.R_far (p := ⟨gb302, 0, none⟩) (Kd.R_types HO_304003.out BK302.out (by decide)) (fun _ hk => hk.2) (.int .i64 x304000_1)) (fun _ hk => hk.2) (.int .i64 x304001_1)) (fun _ hk => hk.2) (.slice Ao123 x304002_1.length co123)) (fun _ hk => hk.2) (.slice Ao124 x304003_1.length co124)) (fun _ hk => hk.1), bl4_ HB.out GE300.out GE301.out GE302.out GE303.out⟩


def liParts_T3 : Bool × List (List Nat × List Nat) := (true, [([], []), ([], []), ([1], [1]), ([2], [2]), ([3], [3]), ([0, 4, 2], [0, 4]), ([], []), ([6, 5, 5, 0, 1, 2, 3, 4, 5, 6], [5, 6])])
def liParts_B3 : List Nat := [0, 0, 2, 6, 14, 31, 0, 127]
theorem liParts_tab3 : rtab .any (opsOf Try.f106 3) = liParts_T3 := by kernel_rfl
theorem liParts_bits3 : waitsOk liParts_T3.2 liParts_B3 = true := by kernel_rfl
def spec_liParts.l0 : Nat → List S28 → Int → Int → List Int → List Int → Option (List S28)
 | 0, _, _, _, _, _ => none
 | k + 1, out, a, b, l2, l3 => (spec_fiCount.f a b l2 l3).bind fun n => if 0 < n then (spec_liUsed.f k a b l2 l3).bind fun us => if 0 < us.length then (spec_liPart.f k a b l2 l3 (us.getD 0 ⟨0, 0⟩).f0 (us.getD 0 ⟨0, 0⟩).f1).bind fun p => if out.length < 2199023255552 then (spec_fiLess.f k a b l2 l3 p.1 p.2.1 p.2.2.1 p.2.2.2).bind fun g => spec_liParts.l0 k (out ++ [(⟨p.1, p.2.1, p.2.2.1, p.2.2.2⟩ : S28)]) g.1 g.2.1 g.2.2.1 g.2.2.2 else none else none else some out
def spec_liParts.f (k : Nat) (a0_0 : Int) (a0_1 : Int) (l0_2 : List Int) (l0_3 : List Int) : Option (List S28) := spec_liParts.l0 k [] a0_0 a0_1 l0_2 l0_3
theorem spec_liParts.mono_l : ∀ k y0 y1 y2 y3 y4, LeO (spec_liParts.l0 k y0 y1 y2 y3 y4) (spec_liParts.l0 (k + 1) y0 y1 y2 y3 y4)
 | 0 => fun _ _ _ _ _ r h => by simp [spec_liParts.l0] at h
 | k + 1 => by
  have ih0 := spec_liParts.mono_l k
  intro y0 y1 y2 y3 y4
  unfold spec_liParts.l0
  repeat' first
   | (with_reducible exact ih0 _ _ _ _ _)
   | (with_reducible exact spec_liUsed.mono _ _ _ _ _)
   | (with_reducible exact spec_liPart.mono _ _ _ _ _ _ _)
   | (with_reducible exact spec_fiLess.mono _ _ _ _ _ _ _ _ _)
   | (with_reducible exact LeO.refl _)
   | (with_reducible exact LeO.none _)
   | (with_reducible refine LeO.ite ?_ ?_)
   | (with_reducible refine LeO.bind ?_ (fun _ => ?_))
   | exact ih0 _ _ _ _ _
   | exact LeO.none _
   | refine LeO.ite ?_ ?_
   | refine LeO.bind ?_ (fun _ => ?_)
theorem spec_liParts.mono : ∀ a0 a1 a2 a3 k, LeO (spec_liParts.f k a0 a1 a2 a3) (spec_liParts.f (k + 1) a0 a1 a2 a3) := fun a0 a1 a2 a3 k => spec_liParts.mono_l k _ _ _ _ _
theorem addr0 (a : Addr) : a.add ((0 : Int).toNat * 2) = a := rfl
def FigC (w w' : World) (gb : Nat) (A : Option Addr) (c : Nat) (l : List Int) : Prop := l.length ≤ c ∧ (Kd.C (Kd.int .i64) w A l.length l ∨ Kd.R (Kd.int .i64) 3 w' w.heap.size (fun k => k ≠ gb) (.slice A l.length c) l)
theorem FigC.len {w w' : World} {gb : Nat} {A : Option Addr} {c : Nat} {l : List Int} (h : FigC w w' gb A c l) : l.length ≤ c := h.1
theorem FigC.read {w w' : World} {gb : Nat} {A : Option Addr} {c : Nat} {l : List Int} (h : FigC w w' gb A c l) (hB : Below w.heap.size w w') : Kd.C (Kd.int .i64) w' A l.length l := by
 rcases h.2 with h | h
 ·exact Kd.C_below h hB
 ·exact (Kd.R_reads' h).2.2
theorem FigC.below {w w1 w2 : World} {gb : Nat} {A : Option Addr} {c : Nat} {l : List Int} (h : FigC w w1 gb A c l) (hb : Below w1.heap.size w1 w2) : FigC w w2 gb A c l := ⟨h.1, h.2.imp (fun h => h) (fun h => Kd.R_below h hb)⟩
theorem FigC.far {w w1 : World} {gb : Nat} {A : Option Addr} {c : Nat} {l : List Int} (h : FigC w w1 gb A c l) (j : Nat) (v : Value) : FigC w (w1.setCell ⟨gb, j, none⟩ v) gb A c l := ⟨h.1, h.2.imp (fun h => h) (fun h => Kd.R_far h (fun k hk => hk) v)⟩
theorem FigC.over {w w1 w2 : World} {gb : Nat} {A : Option Addr} {c : Nat} {l : List Int} {v : Value} {e' : Nat} (h : FigC w w1 gb A c l) (hty : ∀ k, v.ownBlock = some k → ∃ cells, w1.heap[k]? = some (.cells cells e' (0, 0))) (ht : ∀ q, q ∈ 3 :: (Kd.int .i64).E → q ≠ e') (hg : w1.grownBy w2 v.ownBlock) : FigC w w2 gb A c l := ⟨h.1, h.2.imp (fun h => h) (fun h => Kd.R_over' h hty ht hg)⟩
set_option maxRecDepth 100000 in
set_option maxHeartbeats 8000000 in
theorem spec_liParts.calls (k : Nat) (a0_0 : Int) (a0_1 : Int) (A0_2 : Option Addr) (c0_2 : Nat) (l0_2 : List Int) (A0_3 : Option Addr) (c0_3 : Nat) (l0_3 : List Int) (r : List S28) (w : World) (hr0_2 : Kd.C (Kd.int .i64) w A0_2 l0_2.length l0_2) (hc0_2 : l0_2.length ≤ c0_2) (hr0_3 : Kd.C (Kd.int .i64) w A0_3 l0_3.length l0_3) (hc0_3 : l0_3.length ≤ c0_3) (h : spec_liParts.f k a0_0 a0_1 l0_2 l0_3 = some r) :
  Calls Try.prog 106 #[.agg #[.int .i64 a0_0, .int .i64 a0_1, .slice A0_2 l0_2.length c0_2, .slice A0_3 l0_3.length c0_3]] w fun e w' => ∃ v0_ : Value, e = .returned v0_ ∧ Kd.S k28 28 w' w.heap.size (fun _ => True) v0_ r ∧ Below w.heap.size w w' := by
 have H' := Aside0.mk (show spec_liParts.l0 k [] a0_0 a0_1 l0_2 l0_3 = some r from h)
 have F20 : FigC w (w.alloc (.cells #[.int .i64 a0_0, .int .i64 a0_1, .slice A0_2 l0_2.length c0_2, .slice A0_3 l0_3.length c0_3] 28)) w.heap.size A0_2 c0_2 l0_2 := ⟨hc0_2, .inl hr0_2⟩
 have F30 : FigC w (w.alloc (.cells #[.int .i64 a0_0, .int .i64 a0_1, .slice A0_2 l0_2.length c0_2, .slice A0_3 l0_3.length c0_3] 28)) w.heap.size A0_3 c0_3 l0_3 := ⟨hc0_3, .inl hr0_3⟩
 have F2 := Aside0.mk F20
 have F3 := Aside0.mk F30
 have BK := Aside0.mk (heap_alloc_new w (.cells #[.int .i64 a0_0, .int .i64 a0_1, .slice A0_2 l0_2.length c0_2, .slice A0_3 l0_3.length c0_3] 28))
 have HB := Aside0.mk (below_alloc (Below.refl w.heap.size w) (.cells #[.int .i64 a0_0, .int .i64 a0_1, .slice A0_2 l0_2.length c0_2, .slice A0_3 l0_3.length c0_3] 28))
 have GE : Aside0 (w.heap.size ≤ w.heap.size) := ⟨Nat.le_refl _⟩
 clear hr0_2 hc0_2 hr0_3 hc0_3 h F20 F30
 go_enter Try.func106, Try.ntmps106
 go_wp2_with fail
 generalize hgb : w.heap.size = gb at F2 F3 BK ⊢
 have GE : Aside0 (w.heap.size ≤ gb) := ⟨by omega⟩
 clear hgb
 generalize w.alloc (.cells #[.int .i64 a0_0, .int .i64 a0_1, .slice A0_2 l0_2.length c0_2, .slice A0_3 l0_3.length c0_3] 28) = W0 at F2 F3 BK HB ⊢
 go_loopg [3] k (fun kq v3 w' => ∃ (a b : Int) (A2 : Option Addr) (c2 : Nat) (l2 : List Int) (A3 : Option Addr) (c3 : Nat) (l3 : List Int) (out : List S28), Aside0 (spec_liParts.l0 kq out a b l2 l3 = some r) ∧ Aside0 (kq ≤ k) ∧ Aside0 (Kd.S k28 28 w' w.heap.size (fun k_ => k_ ≠ gb) v3 out) ∧ Aside0 (w'.heap[gb]? = some (.cells #[.int .i64 a, .int .i64 b, .slice A2 l2.length c2, .slice A3 l3.length c3] 28 (0, 0))) ∧ Aside0 (FigC w w' gb A2 c2 l2) ∧ Aside0 (FigC w w' gb A3 c3 l3) ∧ Aside0 (Below w.heap.size w w'))
 case atStart => exact ⟨_, _, _, _, _, _, _, _, [], H', ⟨Nat.le_refl _⟩, ⟨Kd.S_nil _ _ _ _ _⟩, BK, F2, F3, HB⟩
 case round =>
  clear H' BK F2 F3 HB
  obtain ⟨a, b, A2, c2, l2, A3, c3, l3, out, HA, HK1, HO, BK, F2, F3, HB⟩ := hrel
  cases gk with
  | zero => exact absurd HA.out (by simp [spec_liParts.l0])
  | succ k1 =>
   have H := HA.out
   clear HA
   rw [spec_liParts.l0] at H
   obtain ⟨n, hn, H⟩ := Option.bind_eq_some_iff.mp H
   have AN := Aside0.mk hn
   clear hn
   have hcz0 : wr.cell? ⟨gb, 0, none⟩ = some (.int .i64 a) := (blk_cell BK.out 0).trans rfl
   have hcz1 : wr.cell? ⟨gb, 1, none⟩ = some (.int .i64 b) := (blk_cell BK.out 1).trans rfl
   have hcz2 : wr.cell? ⟨gb, 2, none⟩ = some (.slice A2 l2.length c2) := (blk_cell BK.out 2).trans rfl
   have hcz3 : wr.cell? ⟨gb, 3, none⟩ = some (.slice A3 l3.length c3) := (blk_cell BK.out 3).trans rfl
   by_cases hpos : 0 < n
   ·rw [if_pos hpos] at H
    obtain ⟨us, hus, H⟩ := Option.bind_eq_some_iff.mp H
    have AU := Aside0.mk hus
    clear hus
    by_cases hul : 0 < us.length
    ·rw [if_pos hul] at H
     obtain ⟨⟨p1, p2, p3, p4⟩, hpp, H⟩ := Option.bind_eq_some_iff.mp H
     obtain ⟨u0, hu0⟩ : ∃ u0, us.getD 0 ⟨0, 0⟩ = u0 := ⟨_, rfl⟩
     rw [hu0] at hpp
     have AP := Aside0.mk hpp
     have HU0 : Aside0 (rd_T36 us 0 = u0) := ⟨hu0⟩
     clear hpp hu0
     by_cases hol : out.length < 2199023255552
     ·rw [if_pos hol] at H
      have LM := Aside0.mk hol
      clear hol
      obtain ⟨⟨g1, g2, g3, g4⟩, hgg, H⟩ := Option.bind_eq_some_iff.mp H
      have AL := Aside0.mk hgg
      have HN := Aside0.mk H
      clear hgg H
      have hd : decide ((0 : Int) < n) = true := decide_eq_true hpos
      have HUL : Aside0 ((0 : Int) < (us.length : Int)) := ⟨by omega⟩
      clear hpos hul
      go_wp2_with (go_at_call 110; refine (spec_fiCount.calls a b A2 c2 l2 A3 c3 l3 n _ (FigC.read F2.out HB.out) (FigC.len F2.out) (FigC.read F3.out HB.out) (FigC.len F3.out) AN.out).mono ?_; rintro e w1 ⟨rfl, hb⟩; have n0_ := Aside0.mk (Kd.S_below HO.out hb); have n1_ := Aside0.mk (blk_below BK.out hb); have n2_ := Aside0.mk (FigC.below F2.out hb); have n3_ := Aside0.mk (FigC.below F3.out hb); have n4_ := Aside0.mk (below_step HB.out hb); clear HO BK F2 F3 HB hcz0 hcz1 hcz2 hcz3 hb; have HO := n0_; have BK := n1_; have F2 := n2_; have F3 := n3_; have HB := n4_; clear n0_ n1_ n2_ n3_ n4_)
      have n0_ := Aside0.mk (Kd.S_drew HO.out)
      have n1_ := Aside0.mk (blk_drew BK.out)
      have n2_ := Aside0.mk (FigC.below F2.out (below_drew (Below.refl _ _)))
      have n3_ := Aside0.mk (FigC.below F3.out (below_drew (Below.refl _ _)))
      have n4_ := Aside0.mk (below_drew1 HB.out)
      clear HO BK F2 F3 HB
      have HO := n0_
      have BK := n1_
      have F2 := n2_
      have F3 := n3_
      have HB := n4_
      clear n0_ n1_ n2_ n3_ n4_
      have HLT : Aside0 (∀ k, u3.ownBlock = some k → k < w1.drew.heap.size) := ⟨Kd.S_lt HO.out⟩
      have HGB : Aside0 (gb < w1.drew.heap.size) := ⟨blk_lt BK.out⟩
      have hulT : ((0 : Int) < (us.length : Int)) = True := eq_true HUL.out
      have hulN : (0 < us.length) = True := eq_true (by have := HUL.out; omega)
      refine start_ (n := 8) (S := fun w' => w'.cell? ⟨gb, 0, none⟩ = some (.int .i64 a) ∧ w'.cell? ⟨gb, 1, none⟩ = some (.int .i64 b) ∧ w'.cell? ⟨gb, 2, none⟩ = some (.slice A2 l2.length c2) ∧ w'.cell? ⟨gb, 3, none⟩ = some (.slice A3 l3.length c3)) (ds := []) #[Ff, Ff, Ff, Ff, Ff, Ff, Ff, Ff] (by kernel_rfl) rfl rfl ⟨(blk_cell BK.out 0).trans rfl, (blk_cell BK.out 1).trans rfl, (blk_cell BK.out 2).trans rfl, (blk_cell BK.out 3).trans rfl⟩ (fun hHeld => ?_)
      refine with_tabW liParts_tab3 liParts_bits3 (fun HT_ HW_ => ?_)
      generalize w1.drew = W5 at BK HO F2 F3 HB HLT HGB hHeld ⊢
      have hS : ∀ w', Below W5.heap.size W5 w' → w'.cell? ⟨gb, 0, none⟩ = some (.int .i64 a) ∧ w'.cell? ⟨gb, 1, none⟩ = some (.int .i64 b) ∧ w'.cell? ⟨gb, 2, none⟩ = some (.slice A2 l2.length c2) ∧ w'.cell? ⟨gb, 3, none⟩ = some (.slice A3 l3.length c3) := fun w' hb => ⟨(hb.cell (World.block_lt_of_cell? W5 _ (hHeld.1))).trans (hHeld.1), (hb.cell (World.block_lt_of_cell? W5 _ (hHeld.2.1))).trans (hHeld.2.1), (hb.cell (World.block_lt_of_cell? W5 _ (hHeld.2.2.1))).trans (hHeld.2.2.1), (hb.cell (World.block_lt_of_cell? W5 _ (hHeld.2.2.2))).trans (hHeld.2.2.2)⟩
      have HB5 : Aside0 (Below W5.heap.size W5 W5) := ⟨Below.refl _ _⟩
      refine tZ (i := 0) (N := some 8) #[Tt, Ff, Ff, Ff, Ff, Ff, Ff, Ff] ?_
      refine tZ (i := 1) (N := some 9) #[Tt, Tt, Ff, Ff, Ff, Ff, Ff, Ff] ?_
      refine join_ (σ := Value × Value × Value × Value × Nat) 1 #[Tt, Tt, Tt, Tt, Tt, Tt, Tt, Ff] (fun s_ => [(10, s_.1), (11, s_.2.1), (12, .agg #[.int .i64 u0.f0, .int .i64 u0.f1]), (13, .agg #[.int .i64 p1, .int .i64 p2, s_.2.2.1, s_.2.2.2.1]), (4, .pointer (some ⟨s_.2.2.2.2, 0, none⟩))]) (fun s_ w' => Below W5.heap.size W5 w' ∧ Kd.R (Kd.int .i64) 3 w' W5.heap.size (fun k_ => some k_ ≠ (s_.2.2.2.1 : Value).ownBlock) s_.2.2.1 p3 ∧ Kd.R (Kd.int .i64) 3 w' W5.heap.size (fun k_ => some k_ ≠ (s_.2.2.1 : Value).ownBlock) s_.2.2.2.1 p4 ∧ w'.heap[s_.2.2.2.2]? = some (.cells #[.int .i64 0, .int .i64 0, .slice none 0 0, .slice none 0 0] 28 (0, 0)) ∧ W5.heap.size ≤ s_.2.2.2.2) ?_ ?_
      rotate_left
      ·intro hCont
       have hbs := HB5.out.size
       refine two_ (i := 2) (j := 6) (Ni := some 10) (Nj := some 4) #[Tt, Tt, Tt, Ff, Ff, Ff, Ff, Ff] #[Tt, Tt, Ff, Ff, Ff, Ff, Tt, Ff] rfl rfl rfl rfl (two_of HT_.out (by kernel_rfl)) (by decide) (by decide) (fun K hK => ?_) (fun K hK => ?_)
       ·refine goes_ Try.func101 (by kernel_rfl) rfl #[.agg #[.int .i64 a, .int .i64 b, .slice A2 l2.length c2, .slice A3 l3.length c3]] (by rfl) rfl rfl (by (try simp only [List.map_toArray, List.map_cons, List.map_nil]); first | done | rfl) ?_
        with_reducible refine (spec_liUsed.calls k1 a b A2 c2 l2 A3 c3 l3 us _ (FigC.read (FigC.below F2.out HB5.out) (below_step HB.out HB5.out)) (FigC.len F2.out) (FigC.read (FigC.below F3.out HB5.out) (below_step HB.out HB5.out)) (FigC.len F3.out) AU.out).mono ?_
        rintro e v6 ⟨vu, rfl, hou, hb⟩
        refine ⟨_, rfl, ?_⟩
        have n0_ := Aside0.mk (below_step HB5.out hb)
        have m0_ := Aside0.mk (Kd.R_lower hou HB5.out.size)
        clear HB5
        have HB5 := n0_
        have HU := m0_
        clear n0_ m0_
        clear hou hb
        obtain ⟨Au, cu, rfl⟩ := Kd.R_slice HU.out
        obtain ⟨adu, hea, hxa, hya⟩ := at_T36 (Kd.R_reads' HU.out).2.2 0 (by omega) HUL.out
        subst hea
        clear hxa hya
        refine hK.out _ _ (hS _ HB5.out) (fun hHeld => ?_)
        clear hK K
        refine norm_ (a' := _) ap_ ?_
        refine pZ (i := 3) (N := some 11) #[Tt, Tt, Tt, Tt, Ff, Ff, Ff, Ff] ?_
        have hbs := HB5.out.size
        refine two_ (i := 4) (j := 6) (Ni := some 12) (Nj := some 4) #[Tt, Tt, Tt, Tt, Tt, Ff, Ff, Ff] #[Tt, Tt, Tt, Tt, Ff, Ff, Tt, Ff] rfl rfl rfl rfl (two_of HT_.out (by kernel_rfl)) (by decide) (by decide) (fun K hK => ?_) (fun K hK => ?_)
        ·obtain ⟨adx, hea, hxa, hya⟩ := at_T36 (Kd.R_reads' HU.out).2.2 0 (by omega) HUL.out
         cases hea
         rw [HU0.out, addr0] at hxa hya
         refine value_ (w1 := ?_) (v := .agg #[.int .i64 u0.f0, .int .i64 u0.f1]) (by rfl) rfl ?_ ?_
         rotate_left
         ·go_simp
          first | rfl | (constructor <;> rfl)
         clear hxa hya
         refine hK.out _ _ (hS _ HB5.out) (fun hHeld => ?_)
         clear hK K
         refine norm_ (a' := _) ap_ ?_
         have hbs := HB5.out.size
         refine two_ (i := 5) (j := 6) (Ni := some 13) (Nj := some 4) #[Tt, Tt, Tt, Tt, Tt, Tt, Ff, Ff] #[Tt, Tt, Tt, Tt, Tt, Ff, Tt, Ff] rfl rfl rfl rfl (two_of HT_.out (by kernel_rfl)) (by decide) (by decide) (fun K hK => ?_) (fun K hK => ?_)
         ·refine goes_ Try.func146 (by kernel_rfl) rfl #[.agg #[.int .i64 a, .int .i64 b, .slice A2 l2.length c2, .slice A3 l3.length c3], .agg #[.int .i64 u0.f0, .int .i64 u0.f1]] (by rfl) rfl rfl (by (try simp only [List.map_toArray, List.map_cons, List.map_nil]); first | done | rfl) ?_
          with_reducible refine (spec_liPart.calls k1 a b A2 c2 l2 A3 c3 l3 u0.f0 u0.f1 p1 p2 p3 p4 _ (FigC.read (FigC.below F2.out HB5.out) (below_step HB.out HB5.out)) (FigC.len F2.out) (FigC.read (FigC.below F3.out HB5.out) (below_step HB.out HB5.out)) (FigC.len F3.out) AP.out).mono ?_
          rintro e v8 ⟨vp, vq, rfl, hop, hoq, hb⟩
          refine ⟨_, rfl, ?_⟩
          have n0_ := Aside0.mk (below_step HB5.out hb)
          have n1_ := Aside0.mk (Kd.R_below HU.out hb)
          have m0_ := Aside0.mk (Kd.R_lower hop HB5.out.size)
          have m1_ := Aside0.mk (Kd.R_lower hoq HB5.out.size)
          clear HB5 HU
          have HB5 := n0_
          have HU := n1_
          have HP := m0_
          have HQ := m1_
          clear n0_ n1_ m0_ m1_
          clear hop hoq hb
          refine hK.out _ _ (hS _ HB5.out) (fun hHeld => ?_)
          clear hK K
          refine norm_ (a' := _) ap_ ?_
          have hbs := HB5.out.size
          refine one_ (i := 6) (N := some 4) #[Tt, Tt, Tt, Tt, Tt, Tt, Tt, Ff] rfl rfl (one_of HT_.out (by kernel_rfl)) (by decide) (fun K hK => ?_)
          refine box_step ?hg (N := 4) ?hd (cs := #[.int .i64 0, .int .i64 0, .slice none 0 0, .slice none 0 0]) (t := 28) ?hr ?_; (case hd => rfl); (case hg => rfl); (case hr => first | (go_simp; done) | (go_simp; rfl))
          intro b6 hg v9 hbox hb
          have GB6 : Aside0 (W5.heap.size ≤ b6) := ⟨by rw [hg]; exact hbs⟩
          clear hg hbs
          have n0_ := Aside0.mk (below_step HB5.out hb)
          have n1_ := Aside0.mk (Kd.R_below HU.out hb)
          have n2_ := Aside0.mk (Kd.R_below HP.out hb)
          have n3_ := Aside0.mk (Kd.R_below HQ.out hb)
          have m0_ := Aside0.mk (hbox)
          clear HB5 HU HP HQ
          have HB5 := n0_
          have HU := n1_
          have HP := n2_
          have HQ := n3_
          have BK6 := m0_
          clear n0_ n1_ n2_ n3_ m0_
          clear hb hbox
          refine hK.out _ _ (hS _ HB5.out) (fun hHeld => ?_)
          clear hK K
          refine norm_ (a' := _) ap_ ?_
          exact norm_ (by simp only [putAll, Act.put, List.setIfInBounds_toArray, List.set_cons_zero, List.set_cons_succ]) (hCont (.slice (some adu) us.length cu, .pointer (some adu), vp, vq, b6) _ ⟨HB5.out, HP.out, HQ.out, BK6.out, GB6.out⟩)
         ·refine box_step ?hg (N := 4) ?hd (cs := #[.int .i64 0, .int .i64 0, .slice none 0 0, .slice none 0 0]) (t := 28) ?hr ?_; (case hd => rfl); (case hg => rfl); (case hr => first | (go_simp; done) | (go_simp; rfl))
          intro b6 hg v8 hbox hb
          have GB6 : Aside0 (W5.heap.size ≤ b6) := ⟨by rw [hg]; exact hbs⟩
          clear hg hbs
          have n0_ := Aside0.mk (below_step HB5.out hb)
          have n1_ := Aside0.mk (Kd.R_below HU.out hb)
          have m0_ := Aside0.mk (hbox)
          clear HB5 HU
          have HB5 := n0_
          have HU := n1_
          have BK6 := m0_
          clear n0_ n1_ m0_
          clear hb hbox
          refine hK.out _ _ (hS _ HB5.out) (fun hHeld => ?_)
          clear hK K
          refine norm_ (a' := _) ap_ ?_
          refine one_ (i := 5) (N := some 13) #[Tt, Tt, Tt, Tt, Tt, Tt, Tt, Ff] rfl rfl (one_of HT_.out (by kernel_rfl)) (by decide) (fun K hK => ?_)
          refine goes_ Try.func146 (by kernel_rfl) rfl #[.agg #[.int .i64 a, .int .i64 b, .slice A2 l2.length c2, .slice A3 l3.length c3], .agg #[.int .i64 u0.f0, .int .i64 u0.f1]] (by rfl) rfl rfl (by (try simp only [List.map_toArray, List.map_cons, List.map_nil]); first | done | rfl) ?_
          with_reducible refine (spec_liPart.calls k1 a b A2 c2 l2 A3 c3 l3 u0.f0 u0.f1 p1 p2 p3 p4 _ (FigC.read (FigC.below F2.out HB5.out) (below_step HB.out HB5.out)) (FigC.len F2.out) (FigC.read (FigC.below F3.out HB5.out) (below_step HB.out HB5.out)) (FigC.len F3.out) AP.out).mono ?_
          rintro e v9 ⟨vp, vq, rfl, hop, hoq, hb⟩
          refine ⟨_, rfl, ?_⟩
          have n0_ := Aside0.mk (below_step HB5.out hb)
          have n1_ := Aside0.mk (Kd.R_below HU.out hb)
          have n2_ := Aside0.mk (blk_below BK6.out hb)
          have m0_ := Aside0.mk (Kd.R_lower hop HB5.out.size)
          have m1_ := Aside0.mk (Kd.R_lower hoq HB5.out.size)
          clear HB5 HU BK6
          have HB5 := n0_
          have HU := n1_
          have BK6 := n2_
          have HP := m0_
          have HQ := m1_
          clear n0_ n1_ n2_ m0_ m1_
          clear hop hoq hb
          refine hK.out _ _ (hS _ HB5.out) (fun hHeld => ?_)
          clear hK K
          refine norm_ (a' := _) ap_ ?_
          exact norm_ (by simp only [putAll, Act.put, List.setIfInBounds_toArray, List.set_cons_zero, List.set_cons_succ]) (hCont (.slice (some adu) us.length cu, .pointer (some adu), vp, vq, b6) _ ⟨HB5.out, HP.out, HQ.out, BK6.out, GB6.out⟩)
        ·refine box_step ?hg (N := 4) ?hd (cs := #[.int .i64 0, .int .i64 0, .slice none 0 0, .slice none 0 0]) (t := 28) ?hr ?_; (case hd => rfl); (case hg => rfl); (case hr => first | (go_simp; done) | (go_simp; rfl))
         intro b6 hg v7 hbox hb
         have GB6 : Aside0 (W5.heap.size ≤ b6) := ⟨by rw [hg]; exact hbs⟩
         clear hg hbs
         have n0_ := Aside0.mk (below_step HB5.out hb)
         have n1_ := Aside0.mk (Kd.R_below HU.out hb)
         have m0_ := Aside0.mk (hbox)
         clear HB5 HU
         have HB5 := n0_
         have HU := n1_
         have BK6 := m0_
         clear n0_ n1_ m0_
         clear hb hbox
         refine hK.out _ _ (hS _ HB5.out) (fun hHeld => ?_)
         clear hK K
         refine norm_ (a' := _) ap_ ?_
         refine one_ (i := 4) (N := some 12) #[Tt, Tt, Tt, Tt, Tt, Ff, Tt, Ff] rfl rfl (one_of HT_.out (by kernel_rfl)) (by decide) (fun K hK => ?_)
         obtain ⟨adx, hea, hxa, hya⟩ := at_T36 (Kd.R_reads' HU.out).2.2 0 (by omega) HUL.out
         cases hea
         rw [HU0.out, addr0] at hxa hya
         refine value_ (w1 := ?_) (v := .agg #[.int .i64 u0.f0, .int .i64 u0.f1]) (by rfl) rfl ?_ ?_
         rotate_left
         ·go_simp
          first | rfl | (constructor <;> rfl)
         clear hxa hya
         refine hK.out _ _ (hS _ HB5.out) (fun hHeld => ?_)
         clear hK K
         refine norm_ (a' := _) ap_ ?_
         refine one_ (i := 5) (N := some 13) #[Tt, Tt, Tt, Tt, Tt, Tt, Tt, Ff] rfl rfl (one_of HT_.out (by kernel_rfl)) (by decide) (fun K hK => ?_)
         refine goes_ Try.func146 (by kernel_rfl) rfl #[.agg #[.int .i64 a, .int .i64 b, .slice A2 l2.length c2, .slice A3 l3.length c3], .agg #[.int .i64 u0.f0, .int .i64 u0.f1]] (by rfl) rfl rfl (by (try simp only [List.map_toArray, List.map_cons, List.map_nil]); first | done | rfl) ?_
         with_reducible refine (spec_liPart.calls k1 a b A2 c2 l2 A3 c3 l3 u0.f0 u0.f1 p1 p2 p3 p4 _ (FigC.read (FigC.below F2.out HB5.out) (below_step HB.out HB5.out)) (FigC.len F2.out) (FigC.read (FigC.below F3.out HB5.out) (below_step HB.out HB5.out)) (FigC.len F3.out) AP.out).mono ?_
         rintro e v9 ⟨vp, vq, rfl, hop, hoq, hb⟩
         refine ⟨_, rfl, ?_⟩
         have n0_ := Aside0.mk (below_step HB5.out hb)
         have n1_ := Aside0.mk (Kd.R_below HU.out hb)
         have n2_ := Aside0.mk (blk_below BK6.out hb)
         have m0_ := Aside0.mk (Kd.R_lower hop HB5.out.size)
         have m1_ := Aside0.mk (Kd.R_lower hoq HB5.out.size)
         clear HB5 HU BK6
         have HB5 := n0_
         have HU := n1_
         have BK6 := n2_
         have HP := m0_
         have HQ := m1_
         clear n0_ n1_ n2_ m0_ m1_
         clear hop hoq hb
         refine hK.out _ _ (hS _ HB5.out) (fun hHeld => ?_)
         clear hK K
         refine norm_ (a' := _) ap_ ?_
         exact norm_ (by simp only [putAll, Act.put, List.setIfInBounds_toArray, List.set_cons_zero, List.set_cons_succ]) (hCont (.slice (some adu) us.length cu, .pointer (some adu), vp, vq, b6) _ ⟨HB5.out, HP.out, HQ.out, BK6.out, GB6.out⟩)
       ·refine box_step ?hg (N := 4) ?hd (cs := #[.int .i64 0, .int .i64 0, .slice none 0 0, .slice none 0 0]) (t := 28) ?hr ?_; (case hd => rfl); (case hg => rfl); (case hr => first | (go_simp; done) | (go_simp; rfl))
        intro b6 hg v6 hbox hb
        have GB6 : Aside0 (W5.heap.size ≤ b6) := ⟨by rw [hg]; exact hbs⟩
        clear hg hbs
        have n0_ := Aside0.mk (below_step HB5.out hb)
        have m0_ := Aside0.mk (hbox)
        clear HB5
        have HB5 := n0_
        have BK6 := m0_
        clear n0_ m0_
        clear hb hbox
        refine hK.out _ _ (hS _ HB5.out) (fun hHeld => ?_)
        clear hK K
        refine norm_ (a' := _) ap_ ?_
        refine one_ (i := 2) (N := some 10) #[Tt, Tt, Tt, Ff, Ff, Ff, Tt, Ff] rfl rfl (one_of HT_.out (by kernel_rfl)) (by decide) (fun K hK => ?_)
        refine goes_ Try.func101 (by kernel_rfl) rfl #[.agg #[.int .i64 a, .int .i64 b, .slice A2 l2.length c2, .slice A3 l3.length c3]] (by rfl) rfl rfl (by (try simp only [List.map_toArray, List.map_cons, List.map_nil]); first | done | rfl) ?_
        with_reducible refine (spec_liUsed.calls k1 a b A2 c2 l2 A3 c3 l3 us _ (FigC.read (FigC.below F2.out HB5.out) (below_step HB.out HB5.out)) (FigC.len F2.out) (FigC.read (FigC.below F3.out HB5.out) (below_step HB.out HB5.out)) (FigC.len F3.out) AU.out).mono ?_
        rintro e v7 ⟨vu, rfl, hou, hb⟩
        refine ⟨_, rfl, ?_⟩
        have n0_ := Aside0.mk (below_step HB5.out hb)
        have n1_ := Aside0.mk (blk_below BK6.out hb)
        have m0_ := Aside0.mk (Kd.R_lower hou HB5.out.size)
        clear HB5 BK6
        have HB5 := n0_
        have BK6 := n1_
        have HU := m0_
        clear n0_ n1_ m0_
        clear hou hb
        obtain ⟨Au, cu, rfl⟩ := Kd.R_slice HU.out
        obtain ⟨adu, hea, hxa, hya⟩ := at_T36 (Kd.R_reads' HU.out).2.2 0 (by omega) HUL.out
        subst hea
        clear hxa hya
        refine hK.out _ _ (hS _ HB5.out) (fun hHeld => ?_)
        clear hK K
        refine norm_ (a' := _) ap_ ?_
        refine pZ (i := 3) (N := some 11) #[Tt, Tt, Tt, Tt, Ff, Ff, Tt, Ff] ?_
        refine one_ (i := 4) (N := some 12) #[Tt, Tt, Tt, Tt, Tt, Ff, Tt, Ff] rfl rfl (one_of HT_.out (by kernel_rfl)) (by decide) (fun K hK => ?_)
        obtain ⟨adx, hea, hxa, hya⟩ := at_T36 (Kd.R_reads' HU.out).2.2 0 (by omega) HUL.out
        cases hea
        rw [HU0.out, addr0] at hxa hya
        refine value_ (w1 := ?_) (v := .agg #[.int .i64 u0.f0, .int .i64 u0.f1]) (by rfl) rfl ?_ ?_
        rotate_left
        ·go_simp
         first | rfl | (constructor <;> rfl)
        clear hxa hya
        refine hK.out _ _ (hS _ HB5.out) (fun hHeld => ?_)
        clear hK K
        refine norm_ (a' := _) ap_ ?_
        refine one_ (i := 5) (N := some 13) #[Tt, Tt, Tt, Tt, Tt, Tt, Tt, Ff] rfl rfl (one_of HT_.out (by kernel_rfl)) (by decide) (fun K hK => ?_)
        refine goes_ Try.func146 (by kernel_rfl) rfl #[.agg #[.int .i64 a, .int .i64 b, .slice A2 l2.length c2, .slice A3 l3.length c3], .agg #[.int .i64 u0.f0, .int .i64 u0.f1]] (by rfl) rfl rfl (by (try simp only [List.map_toArray, List.map_cons, List.map_nil]); first | done | rfl) ?_
        with_reducible refine (spec_liPart.calls k1 a b A2 c2 l2 A3 c3 l3 u0.f0 u0.f1 p1 p2 p3 p4 _ (FigC.read (FigC.below F2.out HB5.out) (below_step HB.out HB5.out)) (FigC.len F2.out) (FigC.read (FigC.below F3.out HB5.out) (below_step HB.out HB5.out)) (FigC.len F3.out) AP.out).mono ?_
        rintro e v9 ⟨vp, vq, rfl, hop, hoq, hb⟩
        refine ⟨_, rfl, ?_⟩
        have n0_ := Aside0.mk (below_step HB5.out hb)
        have n1_ := Aside0.mk (blk_below BK6.out hb)
        have n2_ := Aside0.mk (Kd.R_below HU.out hb)
        have m0_ := Aside0.mk (Kd.R_lower hop HB5.out.size)
        have m1_ := Aside0.mk (Kd.R_lower hoq HB5.out.size)
        clear HB5 BK6 HU
        have HB5 := n0_
        have BK6 := n1_
        have HU := n2_
        have HP := m0_
        have HQ := m1_
        clear n0_ n1_ n2_ m0_ m1_
        clear hop hoq hb
        refine hK.out _ _ (hS _ HB5.out) (fun hHeld => ?_)
        clear hK K
        refine norm_ (a' := _) ap_ ?_
        exact norm_ (by simp only [putAll, Act.put, List.setIfInBounds_toArray, List.set_cons_zero, List.set_cons_succ]) (hCont (.slice (some adu) us.length cu, .pointer (some adu), vp, vq, b6) _ ⟨HB5.out, HP.out, HQ.out, BK6.out, GB6.out⟩)
      rintro ⟨v10, v11, vp, vq, b6⟩ w8 ⟨hb8, hP8, hQ8, h68, hG8⟩
      have hHeld := hS w8 hb8
      refine norm_ (a' := ?_) ?_ ?_
      rotate_left
      ·simp only [putAll, Act.put, List.setIfInBounds_toArray, List.set_cons_zero, List.set_cons_succ]
       rfl
      have GB6 : Aside0 (W5.heap.size ≤ b6) := ⟨hG8⟩
      obtain ⟨Ap, cp, rfl⟩ := Kd.R_slice hP8
      obtain ⟨Aq, cq, rfl⟩ := Kd.R_slice hQ8
      have hs0 : w8.cell? ⟨b6, 0, none⟩ = some (.int .i64 0) := (blk_cell h68 0).trans rfl
      have hs1 : w8.cell? ⟨b6, 1, none⟩ = some (.int .i64 0) := (blk_cell h68 1).trans rfl
      have hs2 : w8.cell? ⟨b6, 2, none⟩ = some (.slice none 0 0) := (blk_cell h68 2).trans rfl
      have hs3 : w8.cell? ⟨b6, 3, none⟩ = some (.slice none 0 0) := (blk_cell h68 3).trans rfl
      have hf0 := blk_frozen h68 0
      have hf1 := blk_frozen h68 1
      have hf2 := blk_frozen h68 2
      have hf3 := blk_frozen h68 3
      refine one_ (i := 7) (N := none) #[Tt, Tt, Tt, Tt, Tt, Tt, Tt, Tt] rfl rfl (one_of HT_.out (by kernel_rfl)) (by decide) (fun K hK => ?_)
      refine skip_ (w1 := ?_) (by rfl) rfl ?_ ?_
      rotate_left
      ·go_simp
       rfl
      refine hK.out _ _ (hS _ (below_set (below_set (below_set (below_set hb8 hG8) hG8) hG8) hG8)) (fun hHeld => ?_)
      clear hK K
      refine done_ (done_of HT_.out (by kernel_rfl)) ?_
      have hb9 := below_set (j := 3) (v := .slice Aq p4.length cq) (below_set (j := 2) (v := .slice Ap p3.length cp) (below_set (j := 1) (v := .int .i64 p2) (below_set (j := 0) (v := .int .i64 p1) hb8 hG8) hG8) hG8) hG8
      have K6 := blk_put (cs := #[.int .i64 p1, .int .i64 p2, .slice Ap p3.length cp, .slice none 0 0]) (blk_put (cs := #[.int .i64 p1, .int .i64 p2, .slice none 0 0, .slice none 0 0]) (blk_put (cs := #[.int .i64 p1, .int .i64 0, .slice none 0 0, .slice none 0 0]) (blk_put (cs := #[.int .i64 0, .int .i64 0, .slice none 0 0, .slice none 0 0]) h68 0 (.int .i64 p1) rfl) 1 (.int .i64 p2) rfl) 2 (.slice Ap p3.length cp) rfl) 3 (.slice Aq p4.length cq) rfl
      have HP9 := Kd.R_far (Kd.R_far (Kd.R_far (Kd.R_far (p := ⟨b6, 0, none⟩) (Kd.R_types hP8 h68 (by decide)) (fun k hk => hk.2) (.int .i64 p1)) (p := ⟨b6, 1, none⟩) (fun k hk => hk.2) (.int .i64 p2)) (p := ⟨b6, 2, none⟩) (fun k hk => hk.2) (.slice Ap p3.length cp)) (p := ⟨b6, 3, none⟩) (fun k hk => hk.2) (.slice Aq p4.length cq)
      have HQ9 := Kd.R_far (Kd.R_far (Kd.R_far (Kd.R_far (p := ⟨b6, 0, none⟩) (Kd.R_types hQ8 h68 (by decide)) (fun k hk => hk.2) (.int .i64 p1)) (p := ⟨b6, 1, none⟩) (fun k hk => hk.2) (.int .i64 p2)) (p := ⟨b6, 2, none⟩) (fun k hk => hk.2) (.slice Ap p3.length cp)) (p := ⟨b6, 3, none⟩) (fun k hk => hk.2) (.slice Aq p4.length cq)
      generalize hW9 : (((w8.setCell ⟨b6, 0, none⟩ (.int .i64 p1)).setCell ⟨b6, 1, none⟩ (.int .i64 p2)).setCell ⟨b6, 2, none⟩ (.slice Ap p3.length cp)).setCell ⟨b6, 3, none⟩ (.slice Aq p4.length cq) = W9 at hb9 K6 HP9 HQ9 ⊢
      have HSZ : Aside0 (w.heap.size ≤ W5.heap.size) := ⟨HB.out.size⟩
      have HO9 := Aside0.mk (Kd.S_old HO.out hb9)
      have BK9 := Aside0.mk (blk_below BK.out hb9)
      have F29 := Aside0.mk (FigC.below F2.out hb9)
      have F39 := Aside0.mk (FigC.below F3.out hb9)
      have HB9 := Aside0.mk (below_step HB.out hb9)
      have K6 := Aside0.mk K6
      have BP := Aside0.mk (Kd.R_base HP9)
      have BQ := Aside0.mk (Kd.R_base HQ9)
      have HP9 := Aside0.mk (Kd.R_lower HP9 HSZ.out)
      have HQ9 := Aside0.mk (Kd.R_lower HQ9 HSZ.out)
      have hd0 : W9.cell? ⟨b6, 0, none⟩ = some (.int .i64 p1) := (blk_cell K6.out 0).trans rfl
      have hd1 : W9.cell? ⟨b6, 1, none⟩ = some (.int .i64 p2) := (blk_cell K6.out 1).trans rfl
      have hd2 : W9.cell? ⟨b6, 2, none⟩ = some (.slice Ap p3.length cp) := (blk_cell K6.out 2).trans rfl
      have hd3 : W9.cell? ⟨b6, 3, none⟩ = some (.slice Aq p4.length cq) := (blk_cell K6.out 3).trans rfl
      clear hs0 hs1 hs2 hs3 hf0 hf1 hf2 hf3 hb8 hP8 hQ8 h68 hG8 hW9 hHeld HT_ HW_ hS HB5 HO BK F2 F3 HB hb9 hulT hulN
      go_wp2_with (first
       | (at_builtin; refine Kd.S_append k28 (w0 := w) w.heap.size rfl (.tmp 14) (.tmp 16) 105 28 (.agg #[(.int .i64 0), (.int .i64 0), (.slice none 0 0), (.slice none 0 0)]) 64 rfl Try.underlying105 info28 rfl (by decide) (by omega) u3 out (⟨p1, p2, p3, p4⟩ : S28) [.int .i64 p1, .int .i64 p2, .slice Ap p3.length cp, .slice Aq p4.length cq] (fun k_ => k_ ≠ gb) (fun k_ => some k_ = (.slice Ap p3.length cp : Value).ownBlock ∨ some k_ = (.slice Aq p4.length cq : Value).ownBlock) rfl rfl ?aP ?aK ?aF ?aO ?aB ?aS ?aL ?_; (case aP => exact k28_mkM _ _ _ (⟨p1, p2, p3, p4⟩ : S28) (Kd.R_mono (Kd.R_tight rfl HP9.out) (fun _ h_ => Or.inl h_)) (Kd.R_mono (Kd.R_tight rfl HQ9.out) (fun _ h_ => Or.inr h_))); (case aK => exact fun k_ hk_ => have hge : W5.heap.size ≤ k_ := hk_.elim (fun h => BP.out k_ h.symm) (fun h => BQ.out k_ h.symm); ⟨by have := HGB.out; omega, fun e_ => by have := HLT.out k_ e_.symm; omega⟩); (case aF => exact fun k_ hk => Kd.freshB BK9.out k_ hk); (case aO => exact Kd.S_mono HO9.out (fun k hk => ⟨hk.1, fun e_ => by have hge : W5.heap.size ≤ k := e_.elim (fun h => BP.out k h.symm) (fun h => BQ.out k h.symm); have := hk.2; omega⟩)); (case aB => exact HB9.out); (case aS => exact HB9.out.size); (case aL => have := LM.out; omega); intro v9 w10 ho hb hg hat; have n0_ := Aside0.mk (blk_grown BK9.out hg (Kd.S_away HO9.out (fun _ hk => hk.1))); have n1_ := Aside0.mk (FigC.over F29.out (Kd.S_typed HO9.out) (by decide) hg); have n2_ := Aside0.mk (FigC.over F39.out (Kd.S_typed HO9.out) (by decide) hg); have n3_ := Aside0.mk (blk_grown K6.out hg (fun e_ => by have := HLT.out b6 e_.symm; have := GB6.out; omega)); have n4_ := Aside0.mk (Kd.R_over' HP9.out (Kd.S_typed HO9.out) (by decide) hg); have n5_ := Aside0.mk (Kd.R_over' HQ9.out (Kd.S_typed HO9.out) (by decide) hg); have HOA := Aside0.mk ho; have HBA := Aside0.mk hb; clear HO9 BK9 F29 F39 HB9 K6 HP9 HQ9 hd0 hd1 hd2 hd3 ho hb hg hat BP BQ; have BK := n0_; have F2 := n1_; have F3 := n2_; have K6 := n3_; have HP9 := n4_; have HQ9 := n5_; clear n0_ n1_ n2_ n3_ n4_ n5_; have hd0 : w10.cell? ⟨b6, 0, none⟩ = some (.int .i64 p1) := (blk_cell K6.out 0).trans rfl; have hd1 : w10.cell? ⟨b6, 1, none⟩ = some (.int .i64 p2) := (blk_cell K6.out 1).trans rfl; have hd2 : w10.cell? ⟨b6, 2, none⟩ = some (.slice Ap p3.length cp) := (blk_cell K6.out 2).trans rfl; have hd3 : w10.cell? ⟨b6, 3, none⟩ = some (.slice Aq p4.length cq) := (blk_cell K6.out 3).trans rfl; have hcz0 : w10.cell? ⟨gb, 0, none⟩ = some (.int .i64 a) := (blk_cell BK.out 0).trans rfl; have hcz1 : w10.cell? ⟨gb, 1, none⟩ = some (.int .i64 b) := (blk_cell BK.out 1).trans rfl; have hcz2 : w10.cell? ⟨gb, 2, none⟩ = some (.slice A2 l2.length c2) := (blk_cell BK.out 2).trans rfl; have hcz3 : w10.cell? ⟨gb, 3, none⟩ = some (.slice A3 l3.length c3) := (blk_cell BK.out 3).trans rfl)
       | (go_at_call 112; refine (spec_fiLess.calls k1 a b A2 c2 l2 A3 c3 l3 p1 p2 Ap cp p3 Aq cq p4 g1 g2 g3 g4 _ (FigC.read F2.out HBA.out) (FigC.len F2.out) (FigC.read F3.out HBA.out) (FigC.len F3.out) (Kd.R_reads' HP9.out).2.2 (Kd.R_reads' HP9.out).2.1 (Kd.R_reads' HQ9.out).2.2 (Kd.R_reads' HQ9.out).2.1 AL.out).mono ?_; rintro e w11 ⟨x2, x3, rfl, hx2, hx3, hb⟩; obtain ⟨A2n, c2n, rfl⟩ := Kd.R_slice hx2; obtain ⟨A3n, c3n, rfl⟩ := Kd.R_slice hx3; have n0_ := Aside0.mk (blk_below BK.out hb); have n1_ := Aside0.mk (Kd.S_below HOA.out hb); have HSY : Aside0 (w.heap.size ≤ w10.heap.size) := ⟨HBA.out.size⟩; have HGY : Aside0 (gb < w10.heap.size) := ⟨blk_lt BK.out⟩; have n2_ : Aside0 (FigC w w11 gb A2n c2n g3) := ⟨⟨(Kd.R_reads' hx2).2.1, .inr (Kd.R_lower (Kd.R_mono (Kd.R_bound hx2) (fun k hk => by have h1 := hk.2.1; have := HGY.out; omega)) HSY.out)⟩⟩; have n3_ : Aside0 (FigC w w11 gb A3n c3n g4) := ⟨⟨(Kd.R_reads' hx3).2.1, .inr (Kd.R_lower (Kd.R_mono (Kd.R_bound hx3) (fun k hk => by have h1 := hk.2.1; have := HGY.out; omega)) HSY.out)⟩⟩; have n4_ := Aside0.mk (below_step HBA.out hb); clear BK HOA F2 F3 HBA hcz0 hcz1 hcz2 hcz3 hd0 hd1 hd2 hd3 hb hx2 hx3 HP9 HQ9 K6 HSY HGY; have BK := n0_; have HO := n1_; have F2 := n2_; have F3 := n3_; have HB := n4_; clear n0_ n1_ n2_ n3_ n4_; have hcz0 : w11.cell? ⟨gb, 0, none⟩ = some (.int .i64 a) := (blk_cell BK.out 0).trans rfl; have hcz1 : w11.cell? ⟨gb, 1, none⟩ = some (.int .i64 b) := (blk_cell BK.out 1).trans rfl; have hcz2 : w11.cell? ⟨gb, 2, none⟩ = some (.slice A2 l2.length c2) := (blk_cell BK.out 2).trans rfl; have hcz3 : w11.cell? ⟨gb, 3, none⟩ = some (.slice A3 l3.length c3) := (blk_cell BK.out 3).trans rfl; have hfz0 := blk_frozen BK.out 0; have hfz1 := blk_frozen BK.out 1; have hfz2 := blk_frozen BK.out 2; have hfz3 := blk_frozen BK.out 3))
      go_roundg k1
      case measure => have := HK1.out; omega
      case rel => exact ⟨g1, g2, A2n, c2n, g3, A3n, c3n, g4, out ++ [⟨p1, p2, p3, p4⟩], HN, ⟨by have := HK1.out; omega⟩, ⟨Kd.S_far (Kd.S_far (Kd.S_far (Kd.S_far HO.out (fun k hk => hk) _) (fun k hk => hk) _) (fun k hk => hk) _) (fun k hk => hk) _⟩, ⟨blk_put (cs := #[.int .i64 g1, .int .i64 g2, .slice A2n g3.length c2n, .slice A3 l3.length c3]) (blk_put (cs := #[.int .i64 g1, .int .i64 g2, .slice A2 l2.length c2, .slice A3 l3.length c3]) (blk_put (cs := #[.int .i64 g1, .int .i64 b, .slice A2 l2.length c2, .slice A3 l3.length c3]) (blk_put (cs := #[.int .i64 a, .int .i64 b, .slice A2 l2.length c2, .slice A3 l3.length c3]) BK.out 0 _ rfl) 1 _ rfl) 2 _ rfl) 3 _ rfl⟩, ⟨FigC.far (FigC.far (FigC.far (FigC.far F2.out _ _) _ _) _ _) _ _⟩, ⟨FigC.far (FigC.far (FigC.far (FigC.far F3.out _ _) _ _) _ _) _ _⟩, ⟨below_set (below_set (below_set (below_set HB.out GE.out) GE.out) GE.out) GE.out⟩⟩
     ·rw [if_neg hol] at H
      exact absurd H (by simp)
    ·rw [if_neg hul] at H
     exact absurd H (by simp)
   ·rw [if_neg hpos] at H
    obtain rfl := Option.some.inj H
    have hd : decide ((0 : Int) < n) = false := decide_eq_false hpos
    clear hpos
    go_wp2_with (go_at_call 110; refine (spec_fiCount.calls a b A2 c2 l2 A3 c3 l3 n _ (FigC.read F2.out HB.out) (FigC.len F2.out) (FigC.read F3.out HB.out) (FigC.len F3.out) AN.out).mono ?_; rintro e w1 ⟨rfl, hb⟩; have HO1 := Aside0.mk (Kd.S_below HO.out hb); have HB1 := Aside0.mk (below_step HB.out hb); clear hcz0 hcz1 hcz2 hcz3 hb)
    go_ret
    exact ⟨_, rfl, Kd.S_mono HO1.out (fun _ _ => trivial), HB1.out⟩

end Go.Proofs.Ytjhndaehdbjgkaa.P
